/- Part 6 of the proof. -/
import Derived.Test.YtlkbiennfpeoiaaGreatDoorSxa
import Derived.Test.YtlkbiennfpeoiaaGreatDoorSxe
import Derived.Lib.Strings
import Derived.Lib.Slices
import Derived.Lib.Walk
import Derived.Lib.Bytealg
import Derived.Test.YtlkbiennfpeoiaaGreatDoorProg
set_option linter.unusedVariables false
set_option linter.unusedSimpArgs false
set_option linter.unusedSectionVars false
section
set_option maxRecDepth 100000
open Go Go.Sx Go.Proofs Go.Nov
namespace Go.Proofs.Tryz
attribute [local simp] eqKV eqA eqA0 eqH eqB eqL eqL0
noncomputable def K147:List Go.Sx.Item:=[.code (Tryz.f147.body.getD .skip)]
def zaz:Ctr:=ctrT false false (fun s:List UInt8=>[.str s]) (fun _=>[]) (fun _=>True) (fun _ (_:Unit)=>True) (fun s _=>(.fn 165 [] [.ptr 0 0],[.box [.str s]]))
theorem zc7:zc Tryz.prog 159 zaz:=by
 refine qD (fn:=Tryz.f159) (c:=Tryz.f159.body.getD .skip) rfl rfl rfl (fun h=>by cases h) fun s hp O w0 σ0 Q hl hq=> ?_
 have h0:σ0=[]:=List.length_eq_zero_iff.1 (by simpa using hl)
 subst h0
 refine zb.run hmix zF [0] 400 (T:=.leaf (.ret [.fn 165 [] [.ptr 0 0]] [.box [.str s]])) (by kernel_rfl) ?_
 simp only [Tree.holds,zd]
 exact RetR.out1 0 (by simp) (hq () trivial) (fun h=>by cases h) (by simp [resV,exp2,exp1,exp0,z6,ren0,eqA2]) (by simp [expB,exp1,exp0,ren0])
noncomputable def G3:Nat→Option Ctr:=fun f=>if f=159 then some (zaz) else if f=148 then some (ZP) else none
theorem Vi:∀ g c,G3 g=some c→zc Tryz.prog g c:=okIf zc7 (okIf VB (zp))
def KR:KV:=[(2,.ptr 0 0),(3,.ptr 1 0),(5,.undef),(6,.undef),(16,.fn 165 [] [.ptr 2 0]),(17,.undef),(19,.undef),(20,.undef)]
def HR(neg:Bool)(b:List UInt8):List Nat→Heap
 | []=>[.box [.bool false,.nils],.box [.bool neg,.nils],.box [.str b]]
 | d::o=>[.box [.bool false,.nils],.box [.bool neg,.osl 4 1 0 (o.length+1)],.box [.str b],.arr 1 1 (natG .u32 [d]),.arr (o.length+1) 1 (natG .u32 (d::o))]
theorem Ux(s:ByteArray):∀ e,e≤s.size→val ((chunks s e).map decB)=numD (s.data.toList.take e):=by
 intro e
 induction e using Nat.strongRecOn with
 | _ e ih=>
  intro he
  rcases Nat.eq_zero_or_pos e with h | h
  ·subst h; simp [kq,val,numD]
  ·rw [kn s h,List.map_cons,val,ih (e - 9) (by omega) (by omega)]
   have hl:s.data.toList.length=s.size:=by rw [Array.length_toList]; rfl
   have h1:s.data.toList.take e=s.data.toList.take (e - 9)++(s.data.toList.take e).drop (e - 9):=by
    conv=>lhs; rw [← List.take_append_drop (e - 9) (s.data.toList.take e)]
    rw [List.take_take,Nat.min_eq_left (by omega)]
   rw [h1,kp,decB,uR,Nat.add_comm,Nat.mul_comm]
   congr 1
   rcases Nat.lt_or_ge e 9 with h9 | h9
   ·rw [show e - 9=0 by omega]; simp [numD]
   ·congr 1
    have:((s.data.toList.take e).drop (e - 9)).length=9:=by simp; omega
    rw [this]
theorem UM(s:ByteArray)(hd:allD s.data.toList):∀ e,e≤s.size→∀ x∈chunks s e,x.size≤9∧allD x.data.toList:=by
 intro e
 induction e using Nat.strongRecOn with
 | _ e ih=>
  intro he x hx
  rcases Nat.eq_zero_or_pos e with h | h
  ·subst h; simp [kq] at hx
  ·rw [kn s h] at hx
   rcases List.mem_cons.1 hx with rfl | hx
   ·refine⟨by rw [ByteArray.size_extract]; omega,?_⟩
    rw [uR]
    intro c hc
    exact hd c (List.mem_of_mem_take (List.mem_of_mem_drop hc))
   ·exact ih (e - 9) (by omega) (by omega) x hx
theorem J2(s:ByteArray):∀ e,(chunks s e).length≤e:=by
 intro e
 induction e using Nat.strongRecOn with
 | _ e ih=>
  rcases Nat.eq_zero_or_pos e with h | h
  ·subst h; simp [kq]
  ·rw [kn s h,List.length_cons]
   have:=ih (e - 9) (by omega)
   omega
abbrev Grp:Type:={x:ByteArray // x.size≤9∧allD x.data.toList}
def zdx:Ctr:=ctrP false (fun p:Bool×List UInt8=>[.str (sgn p.1 p.2)]) (fun p=>allD p.2∧p.2≠[]∧p.2.length≤1000000) (fun p r=>r=numD p.2) (fun p r=>(.agg [.bool p.1,magS r],[]))
def SR(x:List UInt8)(v i:Nat):KV:=[(2,.ptr 0 0),(3,.ptr 1 0),(5,.str x),(6,.int .u32 (v:Int)),(16,.undef),(17,.undef),(19,.int .i64 (x.length:Int)),(20,.int .i64 (i:Int))]
theorem zcg{O:Nat→Prop}{W:World}{σ1:List SE}(l:Nat)(neg:Bool)(b:List UInt8)(o:List Nat)(ho:o.length≤1000000)(y:List UInt8)(hxd:allD y)(hx9:y.length≤9)(X:Prop)(Hx:Heap) :
  j8 (some l) Tryz.prog (bare Tryz.f147) O 3 W σ1 (fun d kv' h'=>LeK 3 Tryz.f147.ntmps [] h' [] (HR neg b (o++[numD y]))) (fun _ h'=>X∧LeK 3 Tryz.f147.ntmps [] h' [] Hx) (.code (.loop (lps (roundOf K147 0) 0).1)::(lps (roundOf K147 0) 0).2)
   (mk Tryz.f147.ntmps [(2,.ptr 0 0),(3,.ptr 1 0),(5,.str y),(6,.int .u32 0),(16,.fn 165 [] [.ptr 2 0]),(17,.str y),(19,.int .i64 (y.length:Int)),(20,.int .i64 0)] (HR neg b o)):=by
 refine zb.loop (ι:={i:Nat // i≤y.length}) (fun i=>SR y (numD (y.take i.1)) i.1) (fun _=>HR neg b o) (fun i=>y.length - i.1) ⟨0,Nat.zero_le _⟩ 1 ?_ ?_ (by kernel_rfl)
 ·refine⟨by simp [SR,numD],?_,?_,?_⟩
  ·cases o<;>simp [HR,za]
  ·cases o<;>kernel_rfl
  ·cases o<;>simp [HR]
 ·rintro⟨i,hil⟩
  have hbound:numD (y.take i)<1000000000:=by
   have h1:=yi (l:=y.take i) fun c hc=>hxd c (List.mem_of_mem_take hc)
   have h2:10^(y.take i).length≤10^9:=Nat.pow_le_pow_right (by decide) (by rw [List.length_take]; omega)
   have h4:(10:Nat)^9=1000000000:=by decide
   omega
  have hnext:∀ h:i<y.length,numD (y.take (i+1))=numD (y.take i)*10+((y.getD i 0).toNat - 48):=by
   intro h; rw [Ub y i h,zd1]
  have hdig:i<y.length→48≤(y.getD i 0).toNat∧(y.getD i 0).toNat≤57:=by
   intro h
   have:=hxd (y.getD i 0) (by simp [List.getD,h])
   exact this
  have hnb:i<y.length→numD (y.take (i+1))<1000000000:=by
   intro h
   have h1:=yi (l:=y.take (i+1)) fun c hc=>hxd c (List.mem_of_mem_take hc)
   have h2:10^(y.take (i+1)).length≤10^9:=Nat.pow_le_pow_right (by decide) (by rw [List.length_take]; omega)
   have h4:(10:Nat)^9=1000000000:=by decide
   omega
  obtain⟨v,hv⟩:∃ v,numD (y.take i)=v:=⟨_,rfl⟩
  simp only [hv] at hbound hnext ⊢
  have ei:((i:Int)+1)=((i+1:Nat):Int):=by omega
  cases o with
  | nil=>
   refine zb.run hmix Vi [2,3,5,6,16,17,19,20] 400 (T:=.ite (decide ((↑i:Int)<y.length)) (.side (inR .u32 ((↑v:Int)*(10:Int))) (.side ((0:Int)≤i∧(↑i:Int)<y.length) (.side (inR .u8 ((↑(UInt8.toNat (y.getD (↑i:Int).toNat (0:UInt8))):Int) - (48:Int))) (.side (inR .u32 ((↑(UInt8.toNat (y.getD (↑i:Int).toNat (0:UInt8))):Int) - (48:Int))) (.side (inR .u32 ((↑v:Int)*(10:Int)+((↑(UInt8.toNat (y.getD (↑i:Int).toNat (0:UInt8))):Int) - (48:Int)))) (.side (inR .i64 ((↑i:Int)+(1:Int))) (.leaf (.back 1 [(2,.ptr 0 0),(3,.ptr 1 0),(5,.str y),(6,.int .u32 ((↑v:Int)*(10:Int)+((↑(UInt8.toNat (y.getD (↑i:Int).toNat (0:UInt8))):Int) - (48:Int)))),(16,.undef),(17,.undef),(19,.int .i64 y.length),(20,.int .i64 ((↑i:Int)+(1:Int)))] [.box [.bool false,.nils],.box [.bool neg,.nils],.box [.str b]])))))))) (.side (4≤140737488355328) (.leaf (.back 0 [(2,.ptr 0 0),(3,.ptr 1 0),(5,.str y),(6,.int .u32 v),(16,.undef),(17,.undef),(19,.int .i64 y.length),(20,.int .i64 i)] [.box [.bool false,.nils],.box [.bool neg,.osl 4 1 0 1],.box [.str b],.arr 1 1 (zh 1 [.int .u32 v]),.arr 1 1 (zg (zh 1 [.int .u32 v]) 0)])))) (by kernel_rfl) ?_
   simp only [Tree.holds,zd,inR,lo,hi,Int.toNat_natCast,ei]
   refine⟨fun hlt=> ?_,fun hge=> ?_⟩
   ·have hlt:i<y.length:=by simp at hlt; omega
    have h1:=hdig hlt
    have h2:=hnb hlt
    have h3:=hnext hlt
    generalize (y.getD i 0).toNat=c at h1 h3 ⊢
    iterate 6 refine⟨by omega,fun _=> ?_⟩
    rw [if_pos trivial]
    refine⟨⟨i+1,hlt⟩,by show y.length - (i+1)<y.length - i; omega,?_,by simp [HR],by kernel_rfl,by simp [HR]⟩
    simp [SR,h3]; omega
   ·have hge:i=y.length:=by simp at hge; omega
    subst hge
    rw [List.take_length] at hv
    refine⟨by omega,fun _=> ?_⟩
    rw [if_neg (by decide),hv]
    refine⟨by simp,?_,by kernel_rfl,by simp [HR]⟩
    simp only [List.nil_append,HR]
    refine⟨by simp,by simp,by simp,⟨rfl,rfl,kS _ _⟩,⟨rfl,rfl,?_⟩,trivial⟩
    exact fun j o hj ho=>by simpa [zg] using kS .u32 v j o hj ho
  | cons d o=>
   refine zb.run hmix Vi [2,3,5,6,16,17,19,20] 400 (T:=.ite (decide ((↑i:Int)<y.length)) (.side (inR .u32 ((↑v:Int)*(10:Int))) (.side ((0:Int)≤i∧(↑i:Int)<y.length) (.side (inR .u8 ((↑(UInt8.toNat (y.getD (↑i:Int).toNat (0:UInt8))):Int) - (48:Int))) (.side (inR .u32 ((↑(UInt8.toNat (y.getD (↑i:Int).toNat (0:UInt8))):Int) - (48:Int))) (.side (inR .u32 ((↑v:Int)*(10:Int)+((↑(UInt8.toNat (y.getD (↑i:Int).toNat (0:UInt8))):Int) - (48:Int)))) (.side (inR .i64 ((↑i:Int)+(1:Int))) (.leaf (.back 1 [(2,.ptr 0 0),(3,.ptr 1 0),(5,.str y),(6,.int .u32 ((↑v:Int)*(10:Int)+((↑(UInt8.toNat (y.getD (↑i:Int).toNat (0:UInt8))):Int) - (48:Int)))),(16,.undef),(17,.undef),(19,.int .i64 y.length),(20,.int .i64 ((↑i:Int)+(1:Int)))] [.box [.bool false,.nils],.box [.bool neg,.osl 4 1 0 (o.length+1)],.box [.str b],.arr 1 1 (natG .u32 [d]),.arr (o.length+1) 1 (natG .u32 (d::o))])))))))) (.side (0=0∧o.length+1≤o.length+1∧(o.length+1+1)*4≤140737488355328) (.leaf (.back 0 [(2,.ptr 0 0),(3,.ptr 1 0),(5,.str y),(6,.int .u32 v),(16,.undef),(17,.undef),(19,.int .i64 y.length),(20,.int .i64 i)] [.box [.bool false,.nils],.box [.bool neg,.osl 4 1 0 (o.length+1+1)],.box [.str b],.arr 1 1 (natG .u32 [d]),.arr (o.length+1+1) 1 (appG (o.length+1) (natG .u32 (d::o)) (zg (zh 1 [.int .u32 v]) 0)),.arr 1 1 (zh 1 [.int .u32 v])])))) (by kernel_rfl) ?_
   simp only [Tree.holds,zd,inR,lo,hi,Int.toNat_natCast,ei]
   refine⟨fun hlt=> ?_,fun hge=> ?_⟩
   ·have hlt:i<y.length:=by simp at hlt; omega
    have h1:=hdig hlt
    have h2:=hnb hlt
    have h3:=hnext hlt
    generalize (y.getD i 0).toNat=c at h1 h3 ⊢
    iterate 6 refine⟨by omega,fun _=> ?_⟩
    rw [if_pos trivial]
    refine⟨⟨i+1,hlt⟩,by show y.length - (i+1)<y.length - i; omega,?_,by simp [HR,za],by kernel_rfl,by simp [HR]⟩
    simp [SR,h3]; omega
   ·have hge:i=y.length:=by simp at hge; omega
    subst hge
    rw [List.take_length] at hv
    refine⟨⟨trivial,Nat.le_refl _,by simp only [List.length_cons] at ho; omega⟩,fun _=> ?_⟩
    rw [if_neg (by decide),hv]
    refine⟨by simp,?_,by kernel_rfl,by simp [HR]⟩
    simp only [List.cons_append,HR]
    refine⟨by simp,by simp,by simp,⟨rfl,rfl,za _ _ _⟩,⟨by simp,rfl,?_⟩,trivial⟩
    have:=uk (k:=.u32) (l:=d::o) (v:=((v:Nat):Int)) (by omega)
    simpa using this
theorem UF{O:Nat→Prop}{W:World}{σ1:List SE}(l:Nat)(neg:Bool)(b:List UInt8)(o:List Nat)(ho:o.length≤1000000)(x:Grp)(X:Prop)(Hx:Heap) :
  j8 (some l) Tryz.prog (bare Tryz.f147) O 3 W σ1 (fun d kv' h'=>LeK 3 Tryz.f147.ntmps [] h' [] (HR neg b (o++[decB x.1]))) (fun _ h'=>X∧LeK 3 Tryz.f147.ntmps [] h' [] Hx) (roundOf K147 0) (mk Tryz.f147.ntmps ((5,.str x.1.data.toList)::(17,.str x.1.data.toList)::KR) (HR neg b o)):=by
 obtain⟨x,hx9,hxd⟩:=x
 simp only
 have hxl:x.data.toList.length=x.size:=by rw [Array.length_toList]; rfl
 have hdB:decB x=numD x.data.toList:=rfl
 rw [hdB]
 generalize x.data.toList=y at hxd hxl
 have core:j8 (some l) Tryz.prog (bare Tryz.f147) O 3 W σ1 (fun d kv' h'=>LeK 3 Tryz.f147.ntmps [] h' [] (HR neg b (o++[numD y]))) (fun _ h'=>X∧LeK 3 Tryz.f147.ntmps [] h' [] Hx) (.code (.loop (lps (roundOf K147 0) 0).1)::(lps (roundOf K147 0) 0).2)
   (mk Tryz.f147.ntmps [(2,.ptr 0 0),(3,.ptr 1 0),(5,.str y),(6,.int .u32 0),(16,.fn 165 [] [.ptr 2 0]),(17,.str y),(19,.int .i64 (y.length:Int)),(20,.int .i64 0)] (HR neg b o)):=by
  exact zcg l neg b o ho y hxd (by omega) X Hx
 cases o with
 | nil=>
  refine zb.run hmix Vi [2,3,5,6,16,17,19,20] 400 (T:=.leaf (.loop (Prod.fst (lps (roundOf K147 0) 0)) (Prod.snd (lps (roundOf K147 0) 0)) [(2,.ptr 0 0),(3,.ptr 1 0),(5,.str y),(6,.int .u32 0),(16,.fn 165 [] [.ptr 2 0]),(17,.str y),(19,.int .i64 y.length),(20,.int .i64 0)] [.box [.bool false,.nils],.box [.bool neg,.nils],.box [.str b]])) (by kernel_rfl) ?_
  simp only [Tree.holds,zd]
  exact core
 | cons d o=>
  refine zb.run hmix Vi [2,3,5,6,16,17,19,20] 400 (T:=.leaf (.loop (Prod.fst (lps (roundOf K147 0) 0)) (Prod.snd (lps (roundOf K147 0) 0)) [(2,.ptr 0 0),(3,.ptr 1 0),(5,.str y),(6,.int .u32 0),(16,.fn 165 [] [.ptr 2 0]),(17,.str y),(19,.int .i64 y.length),(20,.int .i64 0)] [.box [.bool false,.nils],.box [.bool neg,.osl 4 1 0 (o.length+1)],.box [.str b],.arr 1 1 (natG .u32 [d]),.arr (o.length+1) 1 (natG .u32 (d::o))])) (by kernel_rfl) ?_
  simp only [Tree.holds,zd]
  exact core
theorem zgu(neg:Bool)(b:List UInt8)(o:List Nat):∀ x∈HR neg b o,alive x:=by
 cases o with
 | nil=>simp [HR,alive]
 | cons d o=>simp [HR,alive]
theorem zcy{O:Nat→Prop}{w0:World}{Q:AV×Heap→Prop}(neg:Bool)(b:List UInt8)(hb:allD b)(hb0:b≠[])(hbl:b.length≤1000000)(hq:Q (.agg [.bool neg,magS (numD b)],[])) :
  zb Tryz.prog Tryz.f147 O 0 w0 [] (fun _ _ _=>False) (RetR zdx 0 Q) (.code (rfs K147 0).1::(rfs K147 0).2) (mk Tryz.f147.ntmps KR (HR neg b [])):=by
 let s:ByteArray:=⟨b.toArray⟩
 have hsl:s.data.toList=b:=rfl
 have hss:s.size=b.length:=by simp [s,ByteArray.size]
 refine zb.range (tg:=16) (tp:=17) (td:=5) (α:=Grp) (by kernel_rfl) (cap:=[.ptr 2 0]) (enters_of Tryz.func165 (by kernel_rfl) rfl) (fun x=>.str x.1.data.toList) (fun pre=>HR neg b (pre.map fun x=>decB x.1)) (fun _=>[]) (fun _=>False) (fun xs=>xs.map (·.1)=chunks s s.size) (fun pre=>pre.map (·.1) <+: chunks s s.size) (chunks s s.size).length 3
  (by kernel_rfl) (by decide +kernel) (by decide +kernel) (fun x t c y h=>by cases h) ⟨by simp [KR],by simp [HR],by kernel_rfl,Nat.zero_le _⟩ (by kernel_rfl) (Nat.zero_le _) (fun pre=>zgu _ _ _) (fun pre c hc=>by cases hc) ?_ ?_ ?_ (fun _ _ h=>h.elim)
 ·
  intro w σ a hm vb hvb
  simp only [RepL] at hvb
  obtain⟨v,r,rfl,hv,rfl⟩:=hvb
  simp only [Rep] at hv
  obtain⟨e,ad,he,had,rfl⟩:=hv
  have hcell:∀ (W:World) (σ':List SE) (o:List Nat),HRep (Go.Sx.Own O σ') W σ' (HR neg b o)→∀ e' ad,σ'[2]?=some e'→e'.ad=some ad→W.cell? ⟨ad.block,ad.off+0,none⟩=some (.string s):=by
   intro W σ' o hp e' ad he' had'
   have hb2:(HR neg b o)[2]?=some (.box [.str b]):=by cases o<;>rfl
   obtain⟨ad',vs,el,h1,h2,h3,h4⟩:=hp.blk 2 e' _ he' hb2
   rw [had'] at h1; cases h1
   simp only [RepL,Rep] at h4
   obtain⟨v,r,rfl,rfl,rfl⟩:=h4
   simp [World.cell?,h3,h2,s]
  refine⟨fun W=>W.cell? ⟨ad.block,ad.off+0,none⟩=some (.string s),fun x=>.string x.1,?_,?_,?_⟩
  ·exact Tryz.We (fun x=>x.size≤9∧allD x.data.toList) ⟨ad.block,ad.off+0,none⟩ s (UM s (hsl▸hb) s.size (Nat.le_refl _)) (by omega) w (hcell w σ [] hm.hp e ad he had)
  ·intro pre W σ' hM
   refine⟨?_,fun x=>by simp [Rep]⟩
   have ht:=hM.tm 16
   have h16:(mk Tryz.f147.ntmps KR (HR neg b (pre.map fun x=>decB x.1))).tmps.getD 16 .undef = .fn 165 [] [.ptr 2 0]:=by kernel_rfl
   have ht0:=hm.tm 16
   have h160:(mk Tryz.f147.ntmps KR (HR neg b (([]:List Grp).map fun x=>decB x.1))).tmps.getD 16 .undef = .fn 165 [] [.ptr 2 0]:=by kernel_rfl
   rw [h16] at ht
   rw [h160] at ht0
   simp only [TRep,Rep,RepL] at ht ht0
   obtain⟨va,vb',h1,_,v,r,h2,⟨e1,ad1,h3,h4,h5⟩,h6⟩:=ht
   obtain⟨va',vb2,g1,_,v',r',g2,⟨e2,ad2,g3,g4,g5⟩,g6⟩:=ht0
   rw [he] at g3; cases g3
   rw [had] at g4; cases g4
   rw [g1] at h1
   simp only [Value.func.injEq] at h1
   have h7:vb2=vb':=by
    have:=h1.2.2
    simpa using this
   rw [g2,h2,g5,h5] at h7
   simp only [List.cons.injEq,Value.pointer.injEq,Option.some.injEq] at h7
   have h8:=hcell W σ' _ hM.hp e1 ad1 h3 h4
   rw [← h7.1] at h8
   exact h8
  ·intro W l o o' hl ho hoc hK
   exact Yu (grownBy_putObj' W l o') (fun r e=>by cases e; exact⟨o,ho,hoc⟩) hK
 ·
  intro l pre x hlen W σ1
  have hpl:(pre.map fun x=>decB x.1).length≤1000000:=by
   have:=J2 s s.size
   simp; omega
  have:=UF (O:=O) (W:=W) (σ1:=σ1) l neg b (pre.map fun x=>decB x.1) hpl x False []
  simp only [List.map_append,List.map_cons,List.map_nil]
  exact this
 ·
  intro xs hxs
  have ho:xs.map (fun x=>decB x.1)=(chunks s s.size).map decB:=by rw [← hxs,List.map_map]; rfl
  have hv:val (xs.map fun x=>decB x.1)=numD b:=by
   rw [ho,Ux s s.size (Nat.le_refl _),List.take_of_length_le (by rw [Array.length_toList]; exact Nat.le_refl _)]
  have hdg:dig (xs.map fun x=>decB x.1):=by
   intro d hd
   obtain⟨x,_,rfl⟩:=List.mem_map.1 hd
   exact zjq x.2.2 x.2.1
  have hpos:0<s.size:=by rw [hss]; exact List.length_pos_iff.2 hb0
  have hle:(xs.map fun x=>decB x.1).length≤1000000:=by
   rw [ho,List.length_map]
   have:=J2 s s.size
   omega
  have hne:xs.map (fun x=>decB x.1)≠[]:=by
   rw [ho,kn s hpos]; simp
  generalize xs.map (fun x=>decB x.1)=l at hv hdg hle hne
  cases l with
  | nil=>exact absurd rfl hne
  | cons d o=>
   simp only [List.length_cons] at hle
   refine zb.run hmix Vi [2,3,5,6,16,17,19,20] 400 (T:=.ex (fun(u:List Nat)=>u.length=o.length+1∧0+(o.length+1)≤o.length+1∧o.length+1<4611686018427387904∧eqG (o.length+1) 1 (natG .u32 (d::o)) (natG .u32 u)∧dig (List.take (o.length+1) (List.drop 0 u))) fun n=>.all (fun(x:Nat)=>x=val (List.take (o.length+1) (List.drop 0 n))) fun n=>.leaf (.ret [.agg [.bool neg,.osl 4 1 0 (canon n).length]] [.box [.bool neg,.osl 4 1 0 (canon n).length],.box [.bool neg,.osl 4 1 0 (canon n).length],.box [.str b],.arr 1 1 (natG .u32 [d]),.arr (o.length+1) 1 (natG .u32 (d::o))])) (by kernel_rfl) ?_
   simp only [Tree.holds,zd]
   have htk:(List.take (o.length+1) (List.drop 0 (d::o)))=d::o:=by simp
   refine⟨d::o,⟨rfl,by omega,by omega,za _ _ _,by rw [htk]; exact hdg⟩,⟨_,rfl⟩,?_⟩
   intro X hX
   have hX:X=numD b:=by rw [htk,hv] at hX; exact hX
   subst hX
   refine RetR.out0 hq (fun h=>by cases h) ?_
   simp only [resV,exp2,exp1,List.map_cons,List.map_nil,exp0,ren0,z6,frz1,j5,List.getElem?_cons_zero,List.getElem?_cons_succ,if_true,eqA2,eqA,eqL0,eqA0,magS,natS,true_and,and_true]
   exact jK (u:=d::o) (off:=0) (n:=o.length+1) (by simpa using hdg) (by simpa using hv)
theorem zk7:zc Tryz.prog 147 zdx:=by
 refine zf (fn:=Tryz.f147) (c:=Tryz.f147.body.getD .skip) rfl rfl rfl fun p hp O w0 Q hq=> ?_
 obtain⟨neg,b⟩:=p
 obtain⟨hb,hb0,hbl⟩:=hp
 replace hq:=hq _ rfl
 simp only at hb hb0 hbl hq
 obtain⟨s,hs⟩:∃ s,sgn neg b=s:=⟨_,rfl⟩
 simp only [hs]
 refine zb.run hmix Vi [2,3,5,6,16,17,19,20] 400 (T:=.side ((0:Int)≤0∧(0:Int)<s.length) (.ite (decide ((↑(UInt8.toNat (s.getD 0 (0:UInt8))):Int)=45)) (.side ((0:Int)≤1∧(1:Int)≤s.length) (.ex (fun(x:List UInt8)=>eqL [AV.str (List.drop 1 (List.take s.length s))] [AV.str x]∧eqH [] []∧0=0∧True) fun n=>.all (fun(x:Unit)=>True) fun n_1=>.leaf (.range (Prod.fst (rfs K147 0)) (Prod.snd (rfs K147 0)) [(2,.ptr 0 0),(3,.ptr 1 0),(5,.undef),(6,.undef),(16,.fn 165 [] [.ptr 2 0]),(17,.undef),(19,.undef),(20,.undef)] [.box [.bool false,.nils],.box [.bool true,.nils],.box [.str n]]))) (.ex (fun(x:List UInt8)=>eqL [AV.str s] [AV.str x]∧eqH [] []∧0=0∧True) fun n=>.all (fun(x:Unit)=>True) fun n_1=>.leaf (.range (Prod.fst (rfs K147 0)) (Prod.snd (rfs K147 0)) [(2,.ptr 0 0),(3,.ptr 1 0),(5,.undef),(6,.undef),(16,.fn 165 [] [.ptr 2 0]),(17,.undef),(19,.undef),(20,.undef)] [.box [.bool false,.nils],.box [.bool false,.nils],.box [.str n]])))) (by kernel_rfl) ?_
 subst hs
 have hmain:=zcy (O:=O) (w0:=w0) neg b hb hb0 hbl hq
 obtain⟨c,b',rfl⟩:=List.exists_cons_of_ne_nil hb0
 have hc:=hb c (by simp)
 simp only [Tree.holds,zd]
 cases neg with
 | true=>
  simp only [sgn,if_true]
  refine⟨by simp; omega,fun _=>⟨fun _=>⟨by simp; omega,fun _=> ?_⟩,fun h=>by simp at h⟩⟩
  refine⟨c::b',⟨by simp,by simp,by simp⟩,⟨(),trivial⟩,fun _ _=>hmain⟩
 | false=>
  simp only [sgn,Bool.false_eq_true,if_false]
  refine⟨by simp,fun _=>⟨fun h=> ?_,fun _=> ?_⟩⟩
  ·simp at h; omega
  ·refine⟨c::b',⟨by simp,by simp,by simp⟩,⟨(),trivial⟩,fun _ _=>hmain⟩
noncomputable def K135:List Go.Sx.Item:=[.code (Tryz.f135.body.getD .skip)]
noncomputable def K132:List Go.Sx.Item:=[.code (Tryz.f132.body.getD .skip)]
def wm(l:List Nat)(n i:Nat):List Nat:=(List.range l.length).map fun p=>if p<n∧(p<i∨n - i≤p) then l.getD (n - 1 - p) 0 else l.getD p 0
theorem Z2(l:List Nat)(n i:Nat):(wm l n i).length=l.length:=by simp [wm]
theorem Vn{l:List Nat}{n i p:Nat}(h:p<l.length):(wm l n i).getD p 0=if p<n∧(p<i∨n - i≤p) then l.getD (n - 1 - p) 0 else l.getD p 0:=by
 simp [wm,List.getD,h]
theorem Yn(l:List Nat)(n:Nat):wm l n 0=l:=by
 apply List.ext_getElem (by simp [wm])
 intro p h1 h2
 simp only [wm,List.getElem_map,List.getElem_range]
 rw [if_neg (by omega)]; simp [h2]
theorem Uq{l:List Nat}{n i:Nat}(hn:n≤l.length)(hi2:i<n - 1 - i):((wm l n i).set i ((wm l n i).getD (n - 1 - i) 0)).set (n - 1 - i) ((wm l n i).getD i 0)=wm l n (i+1):=by
 rw [Vn (by omega),Vn (by omega),if_neg (by omega),if_neg (by omega)]
 apply List.ext_getElem (by simp [wm])
 intro p h1 h2
 rw [Z2] at h2
 simp only [List.getElem_set,wm,List.getElem_map,List.getElem_range]
 by_cases ha:n - 1 - i=p
 ·rw [if_pos ha,if_pos (by omega)]; congr 1; omega
 ·rw [if_neg ha]
  by_cases hb:i=p
  ·subst hb; rw [if_pos rfl,if_pos (by omega)]
  ·rw [if_neg hb]
   by_cases hc:p<n∧(p<i∨n - i≤p)
   ·rw [if_pos hc,if_pos (by omega)]
   ·rw [if_neg hc,if_neg (by omega)]
theorem zd4{l:List Nat}{n i:Nat}(hn:n≤l.length)(hi2:n - 1 - i≤i):wm l n i=(l.take n).reverse++l.drop n:=by
 apply List.ext_getElem (by simp [wm]; omega)
 intro p h1 h2
 rw [Z2] at h1
 simp only [wm,List.getElem_map,List.getElem_range]
 have hl:(l.take n).reverse.length=n:=by simp; omega
 by_cases ha:p<n
 ·rw [List.getElem_append_left (by omega),List.getElem_reverse,List.getElem_take]
  have e:(l.take n).length - 1 - p=n - 1 - p:=by simp; omega
  simp only [e]
  by_cases hc:p<i∨n - i≤p
  ·rw [if_pos ⟨ha,hc⟩]; simp [show n - 1 - p<l.length by omega]
  ·rw [if_neg (fun h=>hc h.2)]
   have:n - 1 - p=p:=by omega
   simp [this,h1]
 ·rw [if_neg (fun h=>ha h.1),List.getElem_append_right (by omega)]
  simp only [hl,List.getElem_drop]
  have:n+(p - n)=p:=by omega
  simp [this,h1]
def uV:Ctr:=ctrT false false (fun p:List Nat×Nat=>[.osl 0 1 0 p.2]) (fun p=>[.arr p.1.length 1 (natG .u8 p.1)]) (fun p=>p.2≤p.1.length∧p.1.length<2^62) (fun _ (_:Unit)=>True) (fun p _=>(.tup [],[.arr p.1.length 1 (natG .u8 ((p.1.take p.2).reverse++p.1.drop p.2))]))
def SV(n i:Nat):KV:=[(0,.osl 0 1 0 n),(2,.int .i64 (i:Int)),(3,.int .i64 ((n:Int) - 1 - i))]
theorem Jp:zc Tryz.prog 135 uV:=by
 refine qD (fn:=Tryz.f135) (c:=Tryz.f135.body.getD .skip) rfl rfl rfl (fun h=>by cases h) fun p hp O w0 σ0 Q hl0 hq=> ?_
 obtain⟨l,n⟩:=p
 obtain⟨hn,hl⟩:=hp
 replace hq:=hq () trivial
 simp only at hn hl hq
 refine zb.run hmix zF [0,2,3] 400 (T:=Tree.side (inR IntKind.i64 ((↑n:Int) - (1:Int))) (Tree.leaf (wk.loop (Prod.fst (lps K135 (0:Nat))) (Prod.snd (lps K135 (0:Nat))) [((0:Nat),AV.osl (0:Nat) (1:Nat) (0:Nat) n),((2:Nat),AV.int .i64 (0:Int)),((3:Nat),AV.int .i64 ((↑n:Int) - (1:Int)))] [Blk.arr l.length (1:Nat) (natG .u8 l)]))) (by kernel_rfl) ?_
 simp only [Tree.holds,zd,inR,lo,hi]
 refine⟨by omega,fun _=> ?_⟩
 refine zb.loop (ι:={i:Nat // i≤n}) (fun i=>SV n i.1) (fun i=>[.arr l.length 1 (natG .u8 (wm l n i.1))]) (fun i=>n - i.1) ⟨0,Nat.zero_le _⟩ 0 ?_ ?_ (by kernel_rfl)
 ·exact⟨by simp [SV],by simp [Yn,za],by kernel_rfl,Nat.le_refl _⟩
 ·rintro⟨i,hin⟩
  obtain⟨u,hu⟩:∃ u,wm l n i=u:=⟨_,rfl⟩
  have hul:u.length=l.length:=by rw [← hu,Z2]
  simp only [hu,← hul]
  refine zb.run hmix zF [0,2,3] 400 (T:=Tree.ite (decide ((↑i:Int)<(↑n:Int) - (1:Int) - (↑i:Int))) (Tree.side ((0:Int)≤(↑n:Int) - (1:Int) - (↑i:Int)∧(↑n:Int) - (1:Int) - (↑i:Int)<(↑n:Int)) (Tree.side ((0:Int)≤(↑i:Int)∧(↑i:Int)<(↑n:Int)) (Tree.side ((0:Int)≤(↑i:Int)∧(↑i:Int)<(↑n:Int)) (Tree.side ((0:Int)≤(↑n:Int) - (1:Int) - (↑i:Int)∧(↑n:Int) - (1:Int) - (↑i:Int)<(↑n:Int)) (Tree.side (inR IntKind.i64 ((↑i:Int)+(1:Int))) (Tree.side (inR IntKind.i64 ((↑n:Int) - (1:Int) - (↑i:Int) - (1:Int))) (Tree.leaf (wk.back (0:Nat) [((0:Nat),AV.osl (0:Nat) (1:Nat) (0:Nat) n),((2:Nat),AV.int .i64 ((↑i:Int)+(1:Int))),((3:Nat),AV.int .i64 ((↑n:Int) - (1:Int) - (↑i:Int) - (1:Int)))] [Blk.arr u.length (1:Nat) (updG (updG (natG .u8 u) ((0:Nat)+Int.toNat (↑i:Int)) (0:Nat) [AV.int .u8 (↑(u.getD ((0:Nat)+Int.toNat ((↑n:Int) - (1:Int) - (↑i:Int))) (0:Nat)):Int)]) ((0:Nat)+Int.toNat ((↑n:Int) - (1:Int) - (↑i:Int))) (0:Nat) [AV.int .u8 (↑(u.getD ((0:Nat)+Int.toNat (↑i:Int)) (0:Nat)):Int)])])))))))) (Tree.leaf (wk.ret [] [Blk.arr u.length (1:Nat) (natG .u8 u)]))) (by kernel_rfl) ?_
  simp only [Tree.holds,zd,inR,lo,hi,Int.toNat_natCast]
  refine⟨fun hlt=> ?_,fun hge=> ?_⟩
  ·have hlt:i<n - 1 - i:=by simp at hlt; omega
   have ej:((n:Int) - 1 - i).toNat=n - 1 - i:=by omega
   rw [ej]
   iterate 6 refine⟨by omega,fun _=> ?_⟩
   rw [if_pos trivial]
   have hs:=Uq (l:=l) hn hlt
   rw [hu] at hs
   refine⟨⟨i+1,by omega⟩,by show n - (i+1)<n - i; omega,by simp [SV]; omega,?_,by kernel_rfl,Nat.le_refl _⟩
   rw [← hs]
   refine⟨⟨rfl,rfl,?_⟩,trivial⟩
   have h1:=vD (k:=.u8) (l:=u) (v:=(u.getD (n - 1 - i) 0:Nat)) (i:=i) (by omega) (by omega)
   have h2:=vD (k:=.u8) (l:=u.set i (u.getD (n - 1 - i) 0)) (v:=(u.getD i 0:Nat)) (i:=n - 1 - i) (by omega) (by simp; omega)
   simp only [List.length_set,Int.toNat_natCast] at h1 h2
   refine Zt ?_ h2
   intro p o hp ho
   have:=h1 p o hp ho
   simp only [updG,Nat.zero_add] at this ⊢
   split
   ·rfl
   ·exact this
  ·have hge:n - 1 - i≤i:=by simp at hge; omega
   have hr:=zd4 (l:=l) hn hge
   rw [hu] at hr
   refine⟨[0],rfl,by simp,by simp,by simp [uV,ctrT],.tup [],_,qJ (by simp [resV,exp2,eqA2,eqL1]),.inl ?_,rfl,hq⟩
   simp [expH,expB,hr,za]
   omega
def kA(neg:Bool)(x:Nat):Blk:=.box [.bool neg,magS x]
def SW(x i n:Nat):KV:=[(1,.ptr 0 0),(4,.osl 1 1 0 n),(6,.undef),(12,magS x),(13,.int .i64 ((canon x).length:Int)),(14,.int .i64 (i:Int)),(18,.undef)]
def SW2(x i n g k:Nat):KV:=[(1,.ptr 0 0),(4,.osl 1 1 0 n),(6,.int .u32 (g:Int)),(12,magS x),(13,.int .i64 ((canon x).length:Int)),(14,.int .i64 (i:Int)),(18,.int .i64 (k:Int))]
noncomputable def G4:Nat→Option Ctr:=fun f=>if f=135 then some (uV) else none
theorem zai:∀ g c,G4 g=some c→zc Tryz.prog g c:=okIf Jp (zp)
theorem yU(k:IntKind)(l:List Nat)(n:Nat)(hn:n≤l.length):vj n (zg (natG k l) 0)=(l.take n).map UInt8.ofNat:=by
 apply List.ext_getElem (by simp [vj]; omega)
 intro j h1 h2
 have hj:j<n:=by simpa [vj] using h1
 simp [vj,zg,natG,Sx.byteOf,show j<l.length by omega]
def wb(x i:Nat):List Nat:=(decs (9*i) (val ((canon x).take i))).map (48 + ·)
theorem VX(x i:Nat):(wb x i).length=9*i:=by simp [wb,kN]
theorem zb5(i:Nat):B^i=10^(9*i):=by rw [Nat.pow_mul]
theorem zig{x i:Nat}(h:i<(canon x).length):wb x i++(decs 9 ((canon x).getD i 0)).map (48 + ·)=wb x (i+1):=by
 have h1:=qb (qW (zi x) i)
 rw [List.length_take,Nat.min_eq_left (by omega),zb5] at h1
 simp only [wb]
 rw [← List.map_append,← Qd _ _ _ _ h1,zt,zb5]
 rfl
theorem UB(x:Nat):wb x (canon x).length=(dec x).map (48 + ·)++List.replicate (9*(canon x).length - (dec x).length) 48:=by
 have h:x<10^(9*(canon x).length):=by
  have:=qb (zi x)
  rwa [zl,zb5] at this
 simp only [wb,List.take_length,zl,zf8 h,Ten.padN,List.map_append,List.map_replicate,dec]
def Jk:Ctr:=ctrP true (fun p:Bool×Nat=>[.agg [.bool p.1,magS p.2]]) (fun p=>(canon p.2).length<1000000) (fun p r=>r=wr p.1 p.2) (fun _ r=>(.tup [.str r.1,.int .i64 r.2],[]))
theorem zcl{O:Nat→Prop}{w0:World}{Q:AV×Heap→Prop}{Hs:Nat→KV→Heap→Prop}(neg:Bool)(x:Nat)(hx:(canon x).length<1000000)(hx0:x≠0)(hq:Q (.tup [.str (wr neg x).1,.int .i64 (wr neg x).2],[]))(b:List Nat)(hb:b=wb x (canon x).length) :
  zb Tryz.prog Tryz.f132 O 0 w0 [] Hs (RetR Jk 0 Q) (.code (.loop (lps (inside K132 0) 1).1)::(lps (inside K132 0) 1).2) (mk Tryz.f132.ntmps (SW x (canon x).length b.length) [kA neg x,.arr b.length 1 (natG .u8 b)]):=by
 have hdl:=Kd hx0
 have hle:(dec x).length≤9*(canon x).length:=by
  have:=qb (zi x)
  rw [zl,zb5] at this
  exact yE this
 have hbl:b.length=9*(canon x).length:=by rw [hb,VX]
 have hget:∀ p,p<b.length→b.getD p 0=48+(dec x).getD p 0:=by
  intro p hp
  rw [hb,UB]
  by_cases h:p<(dec x).length
  ·rw [xh (by simpa using h),zbs (z:=0) h]
  ·rw [kY (by simpa using Nat.le_of_not_lt h),JM (by simp; omega),wR (Nat.le_of_not_lt h)]
 have htake:b.take (dec x).length=(dec x).map (48 + ·):=by
  rw [hb,UB,List.take_append_of_le_length (by simp),List.take_of_length_le (by simp)]
 refine zb.loop (ι:={n:Nat // (dec x).length≤n∧n≤b.length}) (fun n=>SW x (canon x).length n.1) (fun _=>[kA neg x,.arr b.length 1 (natG .u8 b)]) (fun n=>n.1) ⟨b.length,by omega,Nat.le_refl _⟩ 0 ?_ ?_ (by kernel_rfl)
 ·exact⟨by simp [SW,magS,natS,za],by simp [kA,magS,natS,za],by kernel_rfl,Nat.zero_le _⟩
 ·rintro⟨n,hn1,hn2⟩
  obtain⟨L,hL⟩:∃ L,(canon x).length=L:=⟨_,rfl⟩
  simp only [hL]
  refine zb.run hmix zai [1,4,6,12,13,14,18] 400 (T:=Tree.side (inR IntKind.i64 ((↑n:Int) - (1:Int))) (Tree.side ((0:Int)≤(↑n:Int) - (1:Int)∧(↑n:Int) - (1:Int)<(↑n:Int)) (Tree.ite (decide ((↑(b.getD ((0:Nat)+Int.toNat ((↑n:Int) - (1:Int))) (0:Nat)):Int)=(48:Int))) (Tree.side (inR IntKind.i64 ((↑n:Int) - (1:Int))) (Tree.side ((0:Int)≤(↑n:Int) - (1:Int)∧(↑n:Int) - (1:Int)≤(↑n:Int)) (Tree.leaf (wk.back (0:Nat) [((1:Nat),AV.ptr (0:Nat) (0:Nat)),((4:Nat),AV.osl (1:Nat) (1:Nat) (0:Nat) (Int.toNat ((↑n:Int) - (1:Int)) - (0:Nat))),((6:Nat),AV.undef),((12:Nat),AV.sl (canon x).length (1:Nat) (natG .u32 (canon x))),((13:Nat),AV.int .i64 (↑(canon x).length:Int)),((14:Nat),AV.int .i64 (↑L:Int)),((18:Nat),AV.undef)] [Blk.box [AV.bool neg,AV.sl (canon x).length (1:Nat) (natG .u32 (canon x))],Blk.arr b.length (1:Nat) (natG .u8 b)])))) (Tree.ite (decide ((1000:Int)<(↑n:Int))) (Tree.leaf (wk.ret [AV.str #[].toList,AV.int .i64 (14:Int)] [Blk.box [AV.bool neg,AV.sl (canon x).length (1:Nat) (natG .u32 (canon x))],Blk.arr b.length (1:Nat) (natG .u8 b)])) (Tree.ite neg (Tree.side ((0:Nat)=(0:Nat)∧n≤List.length b∧(n+(1:Nat))*(1:Nat)≤(140737488355328:Nat)) (Tree.ex (fun(x:List Nat×Nat)=>eqL [AV.osl (0:Nat) (1:Nat) (0:Nat) (n+(1:Nat))] [AV.osl (0:Nat) (1:Nat) (0:Nat) (Prod.snd x)]∧eqH [Blk.arr (n+(1:Nat)) (1:Nat) (appG n (natG .u8 b) (zg (zh (1:Nat) [AV.int .u8 (45:Int)]) (0:Nat)))] [Blk.arr (Prod.fst x).length (1:Nat) (natG .u8 (Prod.fst x))]∧(1:Nat)=(1:Nat)∧Prod.snd x≤List.length (Prod.fst x)∧List.length (Prod.fst x)<(4611686018427387904:Nat)) fun(n_1:List Nat×Nat)=>Tree.all (fun(x:Unit)=>True) fun(n_2:Unit)=>Tree.side (∀ (j:Nat),j<n+(1:Nat)→∃ (b:UInt8),AV.int .u8 (↑(List.getD (List.reverse (List.take (Prod.snd n_1) (Prod.fst n_1))++List.drop (Prod.snd n_1) (Prod.fst n_1)) ((0:Nat)+j) (0:Nat)):Int)=AV.int .u8 (↑(UInt8.toNat b):Int)) (Tree.leaf (wk.ret [AV.str (vj (n+(1:Nat)) (zg (natG .u8 (List.reverse (List.take (Prod.snd n_1) (Prod.fst n_1))++List.drop (Prod.snd n_1) (Prod.fst n_1))) (0:Nat))),AV.int .i64 (0:Int)] [Blk.box [AV.bool neg,AV.sl (canon x).length (1:Nat) (natG .u32 (canon x))],Blk.arr (Prod.fst n_1).length (1:Nat) (natG .u8 (List.reverse (List.take (Prod.snd n_1) (Prod.fst n_1))++List.drop (Prod.snd n_1) (Prod.fst n_1))),Blk.arr (1:Nat) (1:Nat) (zh (1:Nat) [AV.int .u8 (45:Int)])])))) (Tree.ex (fun(x:List Nat×Nat)=>eqL [AV.osl (0:Nat) (1:Nat) (0:Nat) n] [AV.osl (0:Nat) (1:Nat) (0:Nat) (Prod.snd x)]∧eqH [Blk.arr b.length (1:Nat) (natG .u8 b)] [Blk.arr (Prod.fst x).length (1:Nat) (natG .u8 (Prod.fst x))]∧(1:Nat)=(1:Nat)∧Prod.snd x≤List.length (Prod.fst x)∧List.length (Prod.fst x)<(4611686018427387904:Nat)) fun(n_1:List Nat×Nat)=>Tree.all (fun(x:Unit)=>True) fun(n_2:Unit)=>Tree.side (∀ (j:Nat),j<n→∃ (b:UInt8),AV.int .u8 (↑(List.getD (List.reverse (List.take (Prod.snd n_1) (Prod.fst n_1))++List.drop (Prod.snd n_1) (Prod.fst n_1)) ((0:Nat)+j) (0:Nat)):Int)=AV.int .u8 (↑(UInt8.toNat b):Int)) (Tree.leaf (wk.ret [AV.str (vj n (zg (natG .u8 (List.reverse (List.take (Prod.snd n_1) (Prod.fst n_1))++List.drop (Prod.snd n_1) (Prod.fst n_1))) (0:Nat))),AV.int .i64 (0:Int)] [Blk.box [AV.bool neg,AV.sl (canon x).length (1:Nat) (natG .u32 (canon x))],Blk.arr (Prod.fst n_1).length (1:Nat) (natG .u8 (List.reverse (List.take (Prod.snd n_1) (Prod.fst n_1))++List.drop (Prod.snd n_1) (Prod.fst n_1)))])))))))) (by kernel_rfl) ?_
  have e1:((n:Int) - 1).toNat=n - 1:=by omega
  have e2:0+(n - 1)=n - 1:=by omega
  have e3:n - 1 - 0=n - 1:=by omega
  simp only [Tree.holds,zd,inR,lo,hi,e1,e2,e3]
  have hg:=hget (n - 1) (by omega)
  rw [hg]
  iterate 2 refine⟨by omega,fun _=> ?_⟩
  refine⟨fun hz=> ?_,fun hnz=>⟨fun hbig=> ?_,fun hsm=> ?_⟩⟩
  ·have hz:(dec x).getD (n - 1) 0=0:=by simp at hz ⊢; omega
   have hne:n≠(dec x).length:=by
    rintro rfl
    exact zaw hdl hz
   iterate 2 refine⟨by omega,fun _=> ?_⟩
   rw [if_pos trivial]
   exact⟨⟨n - 1,by omega,by omega⟩,by show n - 1<n; omega,by simp [SW,magS,natS,za],by simp [kA,magS,natS,za],by kernel_rfl,Nat.zero_le _⟩
  ·have hn:n=(dec x).length:=by
    rcases Nat.lt_or_ge (dec x).length n with h | h
    ·have:(dec x).getD (n - 1) 0=0:=by simp [List.getD,List.getElem?_eq_none (show(dec x).length≤n - 1 by omega)]
     rw [this] at hnz; simp at hnz
    ·omega
   subst hn
   have hbig:1000<(dec x).length:=by simp at hbig; omega
   simp only [wr,if_neg hx0,if_pos hbig] at hq
   exact RetR.scal hq rfl rfl
  ·have hn:n=(dec x).length:=by
    rcases Nat.lt_or_ge (dec x).length n with h | h
    ·have:(dec x).getD (n - 1) 0=0:=by simp [List.getD,List.getElem?_eq_none (show(dec x).length≤n - 1 by omega)]
     rw [this] at hnz; simp at hnz
    ·omega
   subst hn
   have hsm:¬ 1000<(dec x).length:=by simp at hsm; omega
   simp only [wr,if_neg hx0,if_neg hsm] at hq
   have hbyte:∀ (l:List Nat) (k:Nat),(∀ d∈l,d<256)→∀ j,j<k→∃ c:UInt8,AV.int .u8 ((l.getD (0+j) 0:Nat):Int) = .int .u8 (c.toNat:Int):=by
    intro l k hl j hj
    rw [Nat.zero_add]
    have:l.getD j 0<256:=by
     by_cases h:j<l.length
     ·have:=hl l[j] (List.getElem_mem h)
      simpa [List.getD,h] using this
     ·simp [List.getD,List.getElem?_eq_none (Nat.le_of_not_lt h)]
    refine⟨UInt8.ofNat (l.getD j 0),?_⟩
    simp only [AV.int.injEq,true_and]
    rw [UInt8.toNat_ofNat',Nat.mod_eq_of_lt this]
   have hb256:∀ d∈b,d<256:=by
    intro d hd
    rw [hb,UB] at hd
    rcases List.mem_append.1 hd with hd | hd
    ·obtain⟨y,hy,rfl⟩:=List.mem_map.1 hd
     have:=Ten.zi x y hy
     simp only [Ten.B] at this
     omega
    ·have:=(List.mem_replicate.1 hd).2; omega
   have htx:((b.take (dec x).length).reverse).map UInt8.ofNat=txt x:=by
    rw [htake,txt,if_neg hx0,List.map_reverse,List.map_map]; rfl
   refine⟨fun hneg=> ?_,fun hneg=> ?_⟩
   ·subst hneg
    refine⟨⟨trivial,hn2,by omega⟩,fun _=> ?_⟩
    have hal:(b.take (dec x).length++[45]).length=(dec x).length+1:=by simp; omega
    refine⟨(b.take (dec x).length++[45],(dec x).length+1),⟨by simp,?_,by simp,by simp only [hal]; omega,by simp only [hal]; omega⟩,⟨(),trivial⟩,fun _ _=>⟨?_,fun _=> ?_⟩⟩
    ·simp only [eqH,eqB,hal]
     refine⟨⟨trivial,trivial,?_⟩,trivial⟩
     intro j o hj ho
     have:o=0:=by omega
     subst this
     simp only [appG,zg,zh,natG]
     have hl:(b.take (dec x).length).length=(dec x).length:=by simp; omega
     by_cases h:j<(dec x).length
     ·rw [if_pos h,xh (by omega),uT h]
     ·have:j=(dec x).length:=by omega
      subst this
      rw [if_neg (by omega),kY (by omega),hl,Nat.sub_self]
      rfl
    ·refine hbyte _ _ ?_
     intro d hd
     simp only [List.mem_append,List.mem_reverse] at hd
     rcases hd with hd | hd
     ·have:=List.mem_of_mem_take hd
      rcases List.mem_append.1 this with h | h
      ·exact hb256 d (List.mem_of_mem_take h)
      ·simp at h; omega
     ·have:=List.mem_of_mem_drop hd
      rcases List.mem_append.1 this with h | h
      ·exact hb256 d (List.mem_of_mem_take h)
      ·simp at h; omega
    ·refine RetR.scal hq rfl ?_
     simp only [resV]
     rw [yU _ _ _ (by simp; omega)]
     have ht:List.take ((dec x).length+1) (b.take (dec x).length++[45])=b.take (dec x).length++[45]:=List.take_of_length_le (by omega)
     rw [ht,List.take_append_of_le_length (by simp; omega),List.take_of_length_le (by simp; omega),List.reverse_append,List.map_append,htx]
     simp [sgn]
   ·subst hneg
    refine⟨(b,(dec x).length),⟨by simp,by simp [za],by simp,hn2,by simp only [hbl]; omega⟩,⟨(),trivial⟩,fun _ _=>⟨?_,fun _=> ?_⟩⟩
    ·refine hbyte _ _ ?_
     intro d hd
     simp only [List.mem_append,List.mem_reverse] at hd
     rcases hd with hd | hd
     ·exact hb256 d (List.mem_of_mem_take hd)
     ·exact hb256 d (List.mem_of_mem_drop hd)
    ·refine RetR.scal hq rfl ?_
     simp only [resV]
     have hrl:((b.take (dec x).length).reverse).length=(dec x).length:=by simp; omega
     rw [yU _ _ _ (by rw [List.length_append,hrl]; omega),List.take_append_of_le_length (by omega),List.take_of_length_le (by omega),htx]
     simp [sgn]
theorem JE:zc Tryz.prog 132 Jk:=by
 refine zf (fn:=Tryz.f132) (c:=Tryz.f132.body.getD .skip) rfl rfl rfl fun p hp O w0 Q hq=> ?_
 obtain⟨neg,x⟩:=p
 replace hq:=hq _ rfl
 simp only at hp hq
 refine zb.run hmix zai [1,4,6,12,13,14,18] 400 (T:=Tree.ite (decide ((↑(canon x).length:Int)=(0:Int))) (Tree.leaf (wk.ret [AV.str #[(48:UInt8)].toList,AV.int .i64 (0:Int)] [Blk.box [AV.bool neg,AV.sl (canon x).length (1:Nat) (natG .u32 (canon x))]])) (Tree.leaf (wk.loop (Prod.fst (lps K132 (0:Nat))) (Prod.snd (lps K132 (0:Nat))) [((1:Nat),AV.ptr (0:Nat) (0:Nat)),((4:Nat),AV.nils),((6:Nat),AV.undef),((12:Nat),AV.sl (canon x).length (1:Nat) (natG .u32 (canon x))),((13:Nat),AV.int .i64 (↑(canon x).length:Int)),((14:Nat),AV.int .i64 (0:Int)),((18:Nat),AV.undef)] [Blk.box [AV.bool neg,AV.sl (canon x).length (1:Nat) (natG .u32 (canon x))]]))) (by kernel_rfl) ?_
 simp only [Tree.holds,zd,inR,lo,hi]
 refine⟨fun h0=> ?_,fun h0=> ?_⟩
 ·have h0:x=0:=by
   rcases Nat.eq_zero_or_pos x with h | h
   ·exact h
   ·have:=jE (x:=x) (n:=0) (by simp; omega)
    simp at h0; rw [h0] at this; simp at this
  subst h0
  refine RetR.scal hq rfl ?_
  simp [resV,wr]
 ·have hx0:x≠0:=by
   rintro rfl
   simp [zT] at h0
  refine zb.bear 4 1 (natG .u8 []) (by kernel_rfl) (by decide +kernel) (by kernel_rfl) ?_
  refine zb.loop (ι:={i:Nat // i≤(canon x).length}) (fun i=>SW x i.1 (wb x i.1).length) (fun i=>[kA neg x,.arr (wb x i.1).length 1 (natG .u8 (wb x i.1))]) (fun i=>(canon x).length - i.1) ⟨0,Nat.zero_le _⟩ 0 ?_ ?_ (by kernel_rfl)
  ·exact⟨by simp [k5,SW,magS,natS,za,VX],by simp [kA,magS,natS,za,VX,eqG],by kernel_rfl,Nat.zero_le _⟩
  ·rintro⟨i,hil⟩
   obtain⟨b,hb⟩:∃ b,wb x i=b:=⟨_,rfl⟩
   simp only [hb]
   refine zb.run hmix zai [1,4,6,12,13,14,18] 400 (T:=Tree.ite (decide ((↑i:Int)<(↑(canon x).length:Int))) (Tree.side ((0:Int)≤(↑i:Int)∧(↑i:Int)<(↑(canon x).length:Int)) (Tree.leaf (wk.loop (Prod.fst (lps (inside K132 (0:Nat)) (0:Nat))) (Prod.snd (lps (inside K132 (0:Nat)) (0:Nat))) [((1:Nat),AV.ptr (0:Nat) (0:Nat)),((4:Nat),AV.osl (1:Nat) (1:Nat) (0:Nat) b.length),((6:Nat),AV.int .u32 (↑(List.getD (canon x) (↑i:Int).toNat (0:Nat)):Int)),((12:Nat),AV.sl (canon x).length (1:Nat) (natG .u32 (canon x))),((13:Nat),AV.int .i64 (↑(canon x).length:Int)),((14:Nat),AV.int .i64 (↑i:Int)),((18:Nat),AV.int .i64 (0:Int))] [Blk.box [AV.bool neg,AV.sl (canon x).length (1:Nat) (natG .u32 (canon x))],Blk.arr b.length (1:Nat) (natG .u8 b)]))) (Tree.leaf (wk.loop (Prod.fst (lps (inside K132 (0:Nat)) (1:Nat))) (Prod.snd (lps (inside K132 (0:Nat)) (1:Nat))) [((1:Nat),AV.ptr (0:Nat) (0:Nat)),((4:Nat),AV.osl (1:Nat) (1:Nat) (0:Nat) b.length),((6:Nat),AV.undef),((12:Nat),AV.sl (canon x).length (1:Nat) (natG .u32 (canon x))),((13:Nat),AV.int .i64 (↑(canon x).length:Int)),((14:Nat),AV.int .i64 (↑i:Int)),((18:Nat),AV.undef)] [Blk.box [AV.bool neg,AV.sl (canon x).length (1:Nat) (natG .u32 (canon x))],Blk.arr b.length (1:Nat) (natG .u8 b)]))) (by kernel_rfl) ?_
   simp only [Tree.holds,zd,inR,lo,hi,Int.toNat_natCast]
   refine⟨fun hlt=>⟨by simp at hlt; omega,fun _=> ?_⟩,fun hge=> ?_⟩
   ·have hlt:i<(canon x).length:=by simp at hlt; omega
    obtain⟨g,hg⟩:∃ g,(canon x).getD i 0=g:=⟨_,rfl⟩
    have hgB:g<1000000000:=hg▸zM (zi x) i
    have hstep:=zig hlt
    have hbl:b.length=9*i:=by rw [← hb,VX]
    rw [hb,hg] at hstep
    rw [hg]
    refine zb.loop (ι:={k:Nat // k≤9}) (fun k=>SW2 x i (b++(decs k.1 g).map (48 + ·)).length (g/10^k.1) k.1) (fun k=>[kA neg x,.arr (b++(decs k.1 g).map (48 + ·)).length 1 (natG .u8 (b++(decs k.1 g).map (48 + ·)))]) (fun k=>9 - k.1) ⟨0,Nat.zero_le _⟩ 1 ?_ ?_ (by kernel_rfl)
    ·exact⟨by simp [SW2,magS,natS,za,decs],by simp [kA,magS,natS,za,decs],by kernel_rfl,Nat.zero_le _⟩
    ·rintro⟨k,hk⟩
     obtain⟨c,hc⟩:∃ c,b++(decs k g).map (48 + ·)=c:=⟨_,rfl⟩
     obtain⟨q,hqv⟩:∃ q,g/10^k=q:=⟨_,rfl⟩
     have hqB:q<1000000000:=by rw [← hqv]; exact Nat.lt_of_le_of_lt (Nat.div_le_self _ _) hgB
     have hcl:c.length=9*i+k:=by rw [← hc]; simp [kN,hbl]
     have hnext:b++(decs (k+1) g).map (48 + ·)=c++[48+q%10]:=by
      rw [Wy,List.map_append,← List.append_assoc,hc,hqv]; rfl
     have hqn:g/10^(k+1)=q/10:=by rw [Nat.pow_succ,← Nat.div_div_eq_div_mul,hqv]
     simp only [hc,hqv]
     refine zb.run hmix zai [1,4,6,12,13,14,18] 400 (T:=Tree.ite (decide ((↑k:Int)<(9:Int))) (Tree.side ((10:Int)≠(0:Int)) (Tree.side (inR IntKind.u32 ((48:Int)+Int.tmod (↑q:Int) (10:Int))) (Tree.side (inR IntKind.u8 ((48:Int)+Int.tmod (↑q:Int) (10:Int))) (Tree.side ((0:Nat)=(0:Nat)∧List.length c≤List.length c∧(List.length c+(1:Nat))*(1:Nat)≤(140737488355328:Nat)) (Tree.side ((10:Int)≠(0:Int)∧inR IntKind.u32 (Int.tdiv (↑q:Int) (10:Int))) (Tree.side (inR IntKind.i64 ((↑k:Int)+(1:Int))) (Tree.leaf (wk.back (1:Nat) [((1:Nat),AV.ptr (0:Nat) (0:Nat)),((4:Nat),AV.osl (1:Nat) (1:Nat) (0:Nat) (List.length c+(1:Nat))),((6:Nat),AV.int .u32 (Int.tdiv (↑q:Int) (10:Int))),((12:Nat),AV.sl (canon x).length (1:Nat) (natG .u32 (canon x))),((13:Nat),AV.int .i64 (↑(canon x).length:Int)),((14:Nat),AV.int .i64 (↑i:Int)),((18:Nat),AV.int .i64 ((↑k:Int)+(1:Int)))] [Blk.box [AV.bool neg,AV.sl (canon x).length (1:Nat) (natG .u32 (canon x))],Blk.arr (List.length c+(1:Nat)) (1:Nat) (appG c.length (natG .u8 c) (zg (zh (1:Nat) [AV.int .u8 ((48:Int)+Int.tmod (↑q:Int) (10:Int))]) (0:Nat))),Blk.arr (1:Nat) (1:Nat) (zh (1:Nat) [AV.int .u8 ((48:Int)+Int.tmod (↑q:Int) (10:Int))])])))))))) (Tree.side (inR IntKind.i64 ((↑i:Int)+(1:Int))) (Tree.leaf (wk.back (0:Nat) [((1:Nat),AV.ptr (0:Nat) (0:Nat)),((4:Nat),AV.osl (1:Nat) (1:Nat) (0:Nat) c.length),((6:Nat),AV.int .u32 (↑q:Int)),((12:Nat),AV.sl (canon x).length (1:Nat) (natG .u32 (canon x))),((13:Nat),AV.int .i64 (↑(canon x).length:Int)),((14:Nat),AV.int .i64 ((↑i:Int)+(1:Int))),((18:Nat),AV.int .i64 (↑k:Int))] [Blk.box [AV.bool neg,AV.sl (canon x).length (1:Nat) (natG .u32 (canon x))],Blk.arr c.length (1:Nat) (natG .u8 c)])))) (by kernel_rfl) ?_
     have e10:(10:Int)=((10:Nat):Int):=rfl
     have em:Int.tmod (q:Int) 10=((q%10:Nat):Int):=by rw [e10,zaf]
     have ed:Int.tdiv (q:Int) 10=((q/10:Nat):Int):=by rw [e10,za2]
     simp only [Tree.holds,zd,inR,lo,hi,em,ed]
     refine⟨fun hlt2=> ?_,fun hge2=> ?_⟩
     ·have hlt2:k<9:=by simp at hlt2; omega
      refine⟨by decide,fun _=>⟨by omega,fun _=>⟨by omega,fun _=>⟨⟨trivial,Nat.le_refl _,by omega⟩,fun _=>⟨⟨by decide,by omega,by omega⟩,fun _=>⟨by omega,fun _=> ?_⟩⟩⟩⟩⟩⟩
      rw [if_pos trivial]
      refine⟨⟨k+1,by omega⟩,by show 9 - (k+1)<9 - k; omega,?_,?_,by kernel_rfl,Nat.zero_le _⟩
      ·simp [SW2,hnext,hqn,magS,natS,za]
      ·simp only [hnext]
       refine⟨by simp [kA,magS,natS,za],⟨by simp,rfl,?_⟩,trivial⟩
       have:=uk (k:=.u8) (l:=c) (v:=48+((q%10:Nat):Int)) (by omega)
       rw [show(48+((q%10:Nat):Int)).toNat=48+q%10 by omega] at this
       exact this
     ·have hge2:k=9:=by simp at hge2; omega
      subst hge2
      refine⟨by omega,fun _=> ?_⟩
      rw [if_neg (by decide),if_pos trivial]
      have hcw:c=wb x (i+1):=by rw [← hc,hstep]
      exact⟨⟨i+1,hlt⟩,by show _ - (i+1)<_ - i; omega,by simp [SW,hcw,magS,natS,za],by simp [hcw,kA,magS,natS,za],by kernel_rfl,Nat.zero_le _⟩
   ·have hge:i=(canon x).length:=by simp at hge; omega
    subst hge
    exact zcl neg x hp hx0 hq b hb.symm
noncomputable def K98:List Go.Sx.Item:=[.code (Tryz.f98.body.getD .skip)]
noncomputable def K99:List Go.Sx.Item:=[.code (Tryz.f99.body.getD .skip)]
theorem xW(c:UInt8):(if decide ((c.toNat:Int)<48)=true then true else decide (57<(c.toNat:Int))) = !isD c:=by
 simp only [isD]
 by_cases h:c.toNat<48
 ·rw [if_pos (by simp; omega)]; simp; omega
 ·rw [if_neg (by simp; omega)]
  by_cases h2:c.toNat≤57
  ·have:decide (57<(c.toNat:Int))=false:=by simp; omega
   rw [this]; simp; omega
  ·have:decide (57<(c.toNat:Int))=true:=by simp; omega
   rw [this]; simp; omega
def QZ:Ctr:=ctrP true (fun s:List UInt8=>[.str s]) (fun s=>s.length<2^62) (fun s r=>r=errI s) (fun _ r=>(.int .i64 r,[]))
def SCk(b:List UInt8)(i:Nat):KV:=[(3,.str b),(31,.int .i64 (b.length:Int)),(32,.int .i64 (i:Int)),(40,.undef),(41,.undef),(42,.undef),(43,.undef)]
theorem Jg{O:Nat→Prop}{w0:World}{Q:AV×Heap→Prop}{neg:Bool}(b:List UInt8)(hb:b.length<2^62)(hf:b.all isD=true→qx neg b=true)
  (hq:Q (.int .i64 (if qx neg b then(if 1000<b.length then 14 else 0) else 12),[])) :
  zb Tryz.prog Tryz.f98 O 0 w0 [] (fun _ _ _=>False) (RetR QZ 0 Q) (.code (.loop (lps K98 0).1)::(lps K98 0).2) (mk Tryz.f98.ntmps (SCk b 0) []):=by
 refine zb.loop (ι:={i:Nat // i≤b.length∧∀ j,j<i→isD (b.getD j 0)=true}) (fun i=>SCk b i.1) (fun _=>[]) (fun i=>b.length - i.1) ⟨0,Nat.zero_le _,fun j hj=>by omega⟩ 0 ?_ ?_ (by kernel_rfl)
 ·exact⟨by simp [SCk],by simp,by kernel_rfl,Nat.zero_le _⟩
 ·rintro⟨i,hil,hid⟩
  refine zb.run hmix zF [3,31,32,40,41,42,43] 400 (T:=.ite (decide ((↑i:Int)<b.length)) (.side ((0:Int)≤i∧(↑i:Int)<b.length) (.side (decide ((↑(UInt8.toNat (b.getD (↑i:Int).toNat (0:UInt8))):Int)<48)=false→(0:Int)≤i∧(↑i:Int)<b.length) (.ite (bif decide ((↑(UInt8.toNat (b.getD (↑i:Int).toNat (0:UInt8))):Int)<48) then true else decide ((57:Int)<(↑(UInt8.toNat (b.getD (↑i:Int).toNat (0:UInt8))):Int))) (.leaf (.ret [.int .i64 12] [])) (.side (inR .i64 ((↑i:Int)+(1:Int))) (.leaf (.back 0 [(3,.str b),(31,.int .i64 b.length),(32,.int .i64 ((↑i:Int)+(1:Int))),(40,.undef),(41,.undef),(42,.undef),(43,.undef)] [])))))) (.ite (decide ((1000:Int)<b.length)) (.leaf (.ret [.int .i64 14] [])) (.leaf (.ret [.int .i64 0] [])))) (by kernel_rfl) ?_
  simp only [Tree.holds,zd,inR,lo,hi,Int.toNat_natCast,Bool.cond_eq_ite]
  refine⟨fun hlt=> ?_,fun hge=>⟨fun hbig=> ?_,fun hsm=> ?_⟩⟩
  ·have hlt:i<b.length:=by simp at hlt; omega
   refine⟨by omega,fun _=>⟨fun _=>by omega,fun _=>⟨fun hbad=> ?_,fun hgood=>⟨by omega,fun _=> ?_⟩⟩⟩⟩
   ·have hnd:isD (b.getD i 0)=false:=by
     rw [xW] at hbad
     simpa using hbad
    have hnf:qx neg b=false:=by
     have:b.all isD=false:=by
      rw [List.all_eq_false]
      refine⟨b.getD i 0,by simp [List.getD,hlt],by simpa using hnd⟩
     simp [qx,this]
    rw [hnf] at hq
    exact RetR.scal hq rfl (by simp [resV])
   ·have hd:isD (b.getD i 0)=true:=by
     rw [xW] at hgood
     simpa using hgood
    rw [if_pos trivial]
    refine⟨⟨i+1,hlt,fun j hj=> ?_⟩,by show b.length - (i+1)<b.length - i; omega,by simp [SCk],by simp,by kernel_rfl,Nat.zero_le _⟩
    rcases Nat.lt_or_ge j i with h | h
    ·exact hid j h
    ·have:j=i:=by omega
     subst this; exact hd
  all_goals
   have hge:i=b.length:=by simp at hge; omega
   have hall:b.all isD=true:=by
    rw [List.all_eq_true]
    intro c hc
    obtain⟨j,hj,rfl⟩:=List.getElem_of_mem hc
    have:=hid j (by omega)
    simpa [List.getD,hj] using this
   rw [hf hall] at hq
  ·rw [if_pos rfl,if_pos (by simp at hbig; omega)] at hq
   exact RetR.scal hq rfl (by simp [resV])
  ·rw [if_pos rfl,if_neg (by simp at hsm; omega)] at hq
   exact RetR.scal hq rfl (by simp [resV])
theorem JH:zc Tryz.prog 98 QZ:=by
 refine zf (fn:=Tryz.f98) (c:=Tryz.f98.body.getD .skip) rfl rfl rfl fun s hs O w0 Q hq=> ?_
 replace hq:=hq _ rfl
 refine zb.run hmix zF [3,31,32,40,41,42,43] 400 (T:=.side (decide ((0:Int)<s.length)=true→(0:Int)≤0∧(0:Int)<s.length) (.ite (bif decide ((0:Int)<s.length) then decide ((↑(UInt8.toNat (s.getD 0 (0:UInt8))):Int)=45) else false) (.side ((0:Int)≤1∧(1:Int)≤s.length) (.ite (decide (List.drop 1 (List.take s.length s)=#[(48:UInt8)].toList)) (.leaf (.ret [.int .i64 12] [])) (.side (decide (List.drop 1 (List.take s.length s)=#[].toList)=false→(0:Int)≤0∧(0:Int)<(↑(List.length (List.drop 1 (List.take s.length s))):Int)) (.ite (bif decide (List.drop 1 (List.take s.length s)=#[].toList) then true else bif decide ((↑(UInt8.toNat (List.getD (List.drop 1 (List.take s.length s)) 0 (0:UInt8))):Int)=48) then decide ((1:Int)<(↑(List.length (List.drop 1 (List.take s.length s))):Int)) else false) (.leaf (.ret [.int .i64 12] [])) (.leaf (.loop (Prod.fst (lps K98 0)) (Prod.snd (lps K98 0)) [(3,.str (List.drop 1 (List.take s.length s))),(31,.int .i64 (↑(List.length (List.drop 1 (List.take s.length s))):Int)),(32,.int .i64 0),(40,.undef),(41,.undef),(42,.undef),(43,.undef)] [])))))) (.side (decide (s=#[].toList)=false→(0:Int)≤0∧(0:Int)<s.length) (.ite (bif decide (s=#[].toList) then true else bif decide ((↑(UInt8.toNat (s.getD 0 (0:UInt8))):Int)=48) then decide ((1:Int)<s.length) else false) (.leaf (.ret [.int .i64 12] [])) (.leaf (.loop (Prod.fst (lps K98 0)) (Prod.snd (lps K98 0)) [(3,.str s),(31,.int .i64 s.length),(32,.int .i64 0),(40,.undef),(41,.undef),(42,.undef),(43,.undef)] [])))))) (by kernel_rfl) ?_
 simp only [Tree.holds,zd,inR,lo,hi,Bool.cond_eq_ite]
 cases s with
 | nil=>
  simp only [errI,parse,qx] at hq
  refine⟨by simp,fun _=>⟨fun h=>by simp at h,fun _=>⟨by simp,fun _=>⟨fun _=> ?_,fun h=>by simp at h⟩⟩⟩⟩
  exact RetR.scal hq rfl (by simp [resV])
 | cons c b=>
  refine⟨by simp,fun _=>⟨fun h=> ?_,fun h=> ?_⟩⟩
  ·have hc:c=45:=by
    simp at h
    have:c.toNat=45:=by omega
    exact UInt8.toNat_inj.1 this
   subst hc
   have hp:parse (45::b)=(true,b):=rfl
   have hd:List.drop 1 (List.take (45::b).length (45::b))=b:=by simp
   rw [hd]
   simp only [errI,hp] at hq
   refine⟨by simp; omega,fun _=>⟨fun h0=> ?_,fun h0=>⟨fun hne=> ?_,fun _=>⟨fun hbad=> ?_,fun hgood=> ?_⟩⟩⟩⟩
   ·have hb:b=[48]:=by simpa using h0
    subst hb
    exact RetR.scal hq rfl rfl
   ·have:b≠[]:=by simpa using hne
    have:=List.length_pos_iff.2 this
    omega
   ·have hnf:qx true b=false:=by
     by_cases hb:b=[]
     ·subst hb; rfl
     ·rw [if_neg (by simpa using hb)] at hbad
      split at hbad
      ·rename_i h48
       have:b.getD 0 0=48:=ZY (of_decide_eq_true h48)
       have hl:1<b.length:=by simp at hbad; omega
       exact vZ this hl
      ·cases hbad
    rw [hnf] at hq
    exact RetR.scal hq rfl (by simp [resV])
   ·have hf:b.all isD=true→qx true b=true:=by
     intro hall
     have hb:b≠[]:=by
      intro hb; subst hb; simp at hgood
     have hb2:b≠[48]:=by simpa using h0
     rw [if_neg (by simpa using hb)] at hgood
     have h3:¬ (b.getD 0 0=48∧1<b.length):=by
      rintro⟨g1,g2⟩
      rw [g1] at hgood
      rw [if_pos (by decide)] at hgood
      simp at hgood; omega
     simp only [qx,hall,hb,hb2,Bool.and_true]
     simp only [decide_false,Bool.not_false,Bool.and_false,Bool.true_and,Bool.not_eq_true',Bool.and_eq_false_iff,decide_eq_false_iff_not]
     by_cases g1:b.getD 0 0=48
     ·exact .inr fun g2=>h3 ⟨g1,g2⟩
     ·exact .inl g1
    exact Jg b (by simp at hs; omega) hf hq
  ·have hc:c≠45:=by
    rintro rfl
    simp at h
   have hp:parse (c::b)=(false,c::b):=by simp [parse,hc]
   simp only [errI,hp] at hq
   obtain⟨s,hs'⟩:∃ s,c::b=s:=⟨_,rfl⟩
   have hne:s≠[]:=by rw [← hs']; simp
   rw [hs'] at hq hs ⊢
   refine⟨fun _=>⟨by omega,by have:=List.length_pos_iff.2 hne; omega⟩,fun _=>⟨fun hbad=> ?_,fun hgood=> ?_⟩⟩
   ·have hnf:qx false s=false:=by
     rw [if_neg (by simpa using hne)] at hbad
     split at hbad
     ·rename_i h48
      have:s.getD 0 0=48:=ZY (of_decide_eq_true h48)
      have hl:1<s.length:=by simp at hbad; omega
      exact vZ this hl
     ·cases hbad
    rw [hnf] at hq
    exact RetR.scal hq rfl (by simp [resV])
   ·have hf:s.all isD=true→qx false s=true:=by
     intro hall
     rw [if_neg (by simpa using hne)] at hgood
     have h3:¬ (s.getD 0 0=48∧1<s.length):=by
      rintro⟨g1,g2⟩
      rw [g1] at hgood
      rw [if_pos (by decide)] at hgood
      simp at hgood; omega
     simp only [qx,hall,hne,Bool.and_true]
     simp only [decide_false,Bool.not_false,Bool.false_and,Bool.true_and,Bool.not_eq_true',Bool.and_eq_false_iff,decide_eq_false_iff_not]
     by_cases g1:s.getD 0 0=48
     ·exact .inr fun g2=>h3 ⟨g1,g2⟩
     ·exact .inl g1
    exact Jg s hs hf hq
def numV(neg:Bool)(x:Nat):AV:=.agg [.bool neg,magS x]
def ZZ:Ctr:=ctrP false (fun p:List UInt8×List UInt8=>[.str p.1,.str p.2]) (fun p=>p.1.length<2^62∧p.2.length<2^62) (fun p (r:Int×(Bool×Nat)×(Bool×Nat))=>r=if zB p.1 p.2=0 then(0,(negI p.1,numI p.1),(negI p.2,numI p.2)) else(zB p.1 p.2,(false,0),(false,0)))
 (fun _ r=>(.tup [numV r.2.1.1 r.2.1.2,numV r.2.2.1 r.2.2.2,.int .i64 r.1],[]))
noncomputable def G5:Nat→Option Ctr:=fun f=>if f=98 then some (QZ) else if f=147 then some (zdx) else none
theorem znl:∀ g c,G5 g=some c→zc Tryz.prog g c:=okIf JH (okIf zk7 (zp))
theorem zm4:canon 0=[]:=by simp [canon]
theorem VG:zc Tryz.prog 131 ZZ:=by
 refine zf (fn:=Tryz.f131) (c:=Tryz.f131.body.getD .skip) rfl rfl rfl fun p hp O w0 Q hq=> ?_
 obtain⟨s,t⟩:=p
 obtain⟨hs,ht⟩:=hp
 replace hq:=hq _ rfl
 simp only at hs ht hq
 refine zb.run hmix znl [] 400 (T:=.ex (fun(x:List UInt8)=>eqL [AV.str s] [AV.str x]∧x.length<4611686018427387904) fun n=>.all (fun(r:Int)=>r=errI n) fun n=>.ite (decide (n=0)) (.ex (fun(x:List UInt8)=>eqL [AV.str t] [AV.str x]∧x.length<4611686018427387904) fun n=>.all (fun(r:Int)=>r=errI n) fun n=>.ite (!decide (n=0)) (.leaf (.ret [.agg [.bool false,.nils],.agg [.bool false,.nils],.int .i64 n] [.box [.bool false,.nils],.box [.bool false,.nils]])) (.ex (fun(x:Bool×List UInt8)=>eqL [AV.str s] [AV.str (sgn x.1 x.2)]∧allD x.2∧x.2≠[]∧x.2.length≤1000000) fun n=>.all (fun(r:Nat)=>r=numD n.2) fun n_1=>.ex (fun(x:Bool×List UInt8)=>eqL [AV.str t] [AV.str (sgn x.1 x.2)]∧allD x.2∧x.2≠[]∧x.2.length≤1000000) fun n_2=>.all (fun(r:Nat)=>r=numD n_2.2) fun n_3=>.leaf (.ret [.agg [.bool n.1,.sl (canon n_1).length 1 (natG .u32 (canon n_1))],.agg [.bool n_2.1,.sl (canon n_3).length 1 (natG .u32 (canon n_3))],.int .i64 0] [.box [.bool n.1,.sl (canon n_1).length 1 (natG .u32 (canon n_1))],.box [.bool n_2.1,.sl (canon n_3).length 1 (natG .u32 (canon n_3))]]))) (.ite (!decide (n=0)) (.leaf (.ret [.agg [.bool false,.nils],.agg [.bool false,.nils],.int .i64 n] [.box [.bool false,.nils],.box [.bool false,.nils]])) (.ex (fun(x:Bool×List UInt8)=>eqL [AV.str s] [AV.str (sgn x.1 x.2)]∧allD x.2∧x.2≠[]∧x.2.length≤1000000) fun n=>.all (fun(r:Nat)=>r=numD n.2) fun n_1=>.ex (fun(x:Bool×List UInt8)=>eqL [AV.str t] [AV.str (sgn x.1 x.2)]∧allD x.2∧x.2≠[]∧x.2.length≤1000000) fun n_2=>.all (fun(r:Nat)=>r=numD n_2.2) fun n_3=>.leaf (.ret [.agg [.bool n.1,.sl (canon n_1).length 1 (natG .u32 (canon n_1))],.agg [.bool n_2.1,.sl (canon n_3).length 1 (natG .u32 (canon n_3))],.int .i64 0] [.box [.bool n.1,.sl (canon n_1).length 1 (natG .u32 (canon n_1))],.box [.bool n_2.1,.sl (canon n_3).length 1 (natG .u32 (canon n_3))]])))) (by kernel_rfl) ?_
 have bad:∀ h,zB s t≠0→RetR ZZ 0 Q [.agg [.bool false,.nils],.agg [.bool false,.nils],.int .i64 (zB s t)] h:=by
  intro h he
  rw [if_neg he] at hq
  refine RetR.out0 hq (fun h=>by simp [ZZ,ctrP] at h) ?_
  simp [resV,exp2,exp1,exp0,ren0,eqA2,eqL1,eqA,eqL0,eqA0,numV,magS,natS,zm4]
 have good:∀ h,zB s t=0→RetR ZZ 0 Q [.agg [.bool (negI s),magS (numI s)],.agg [.bool (negI t),magS (numI t)],.int .i64 0] h:=by
  intro h he
  rw [if_pos he] at hq
  refine RetR.out0 hq (fun h=>by simp [ZZ,ctrP] at h) ?_
  simp [resV,exp2,exp1,exp0,ren0,eqA2,eqL1,eqA,eqL0,eqA0,numV,magS,natS,za]
 have rd:∀ u,errI u=0→eqL [AV.str u] [AV.str (sgn (negI u) (parse u).2)]∧allD (parse u).2∧(parse u).2≠[]∧(parse u).2.length≤1000000:=by
  intro u hu
  obtain⟨h1,h2,h3,h4⟩:=uv hu
  exact⟨by simpa using h1,h2,h3,by omega⟩
 simp only [Tree.holds,zd]
 refine⟨s,⟨by simp,by omega⟩,?_⟩
 refine⟨⟨_,rfl⟩,?_⟩
 rintro _ rfl
 refine⟨fun h1=> ?_,fun h1=> ?_⟩
 ·have h1:errI s=0:=by simpa using h1
  refine⟨t,⟨by simp,by omega⟩,?_⟩
  refine⟨⟨_,rfl⟩,?_⟩
  rintro _ rfl
  refine⟨fun h2=> ?_,fun h2=> ?_⟩
  ·have h2:errI t≠0:=by simpa using h2
   have e:zB s t=errI t:=by simp [zB,h1]
   rw [← e]
   exact bad _ (by rw [e]; exact h2)
  ·have h2:errI t=0:=by simpa using h2
   refine⟨(negI s,(parse s).2),rd s h1,?_⟩
   refine⟨⟨_,rfl⟩,?_⟩
   rintro _ rfl
   refine⟨(negI t,(parse t).2),rd t h2,?_⟩
   refine⟨⟨_,rfl⟩,?_⟩
   rintro _ rfl
   exact good _ (zK.2 ⟨h1,h2⟩)
 ·have h1:errI s≠0:=by simpa using h1
  have e:zB s t=errI s:=by simp [zB,h1]
  refine⟨fun h2=> ?_,fun h2=>absurd (by simpa using h2) h1⟩
  rw [← e]
  exact bad _ (by rw [e]; exact h1)
noncomputable def G6:Nat→Option Ctr:=fun f=>if f=131 then some (ZZ) else if f=137 then some (uI) else if f=132 then some (Jk) else none
theorem zky:∀ g c,G6 g=some c→zc Tryz.prog g c:=okIf VG (okIf WO (okIf JE (zp)))
def gcdC:Ctr:=ctrP true (fun p:List UInt8×List UInt8=>[.str p.1,.str p.2]) (fun p=>p.1.length<2^62∧p.2.length<2^62) (fun p r=>r=gcdR p.1 p.2) (fun _ r=>(.tup [.str r.1,.int .i64 r.2],[]))
def SGc:KV:=[(6,.ptr 0 0),(7,.ptr 1 0)]
def HGc(m n:Bool)(x y:Nat):Heap:=[.box [.bool m,magS x],.box [.bool n,magS y]]
theorem jP{x:Nat} : x<B^112↔(canon x).length≤112:=by
 refine⟨fun h=>z7 h,fun h=> ?_⟩
 have h1:=qb (zi x)
 rw [zl] at h1
 exact Nat.lt_of_lt_of_le h1 (Nat.pow_le_pow_right (by decide) h)
theorem yv{x:Nat} : (canon x).length=0↔x=0:=by
 constructor
 ·intro h
  have:=zl x
  rw [List.length_eq_zero_iff.1 h] at this
  exact this.symm
 ·rintro rfl; simp [canon]
theorem zfm:zc Tryz.prog 99 gcdC:=by
 refine zf (fn:=Tryz.f99) (c:=Tryz.f99.body.getD .skip) rfl rfl rfl fun p hp O w0 Q hq=> ?_
 obtain⟨s,t⟩:=p
 obtain⟨hs,ht⟩:=hp
 replace hq:=hq _ rfl
 simp only at hs ht hq
 refine zb.run hmix zky [6,7] 400 (T:=.ex (fun(x:List UInt8×List UInt8)=>eqL [AV.str s,AV.str t] [AV.str x.1,AV.str x.2]∧x.1.length<4611686018427387904∧x.2.length<4611686018427387904) fun n=>.all (fun(r:Int×(Bool×Nat)×Bool×Nat)=>r=if zB n.1 n.2=0 then((0:Int),(negI n.1,numI n.1),negI n.2,numI n.2) else(zB n.1 n.2,(false,0),false,0)) fun n=>.ite (!decide (n.1=0)) (.leaf (.ret [.str #[].toList,.int .i64 n.1] [.box [.bool n.2.1.1,.sl (canon n.2.1.2).length 1 (natG .u32 (canon n.2.1.2))],.box [.bool n.2.2.1,.sl (canon n.2.2.2).length 1 (natG .u32 (canon n.2.2.2))]])) (.leaf (.loop (Prod.fst (lps K99 0)) (Prod.snd (lps K99 0)) [(6,.ptr 0 0),(7,.ptr 1 0)] [.box [.bool n.2.1.1,.sl (canon n.2.1.2).length 1 (natG .u32 (canon n.2.1.2))],.box [.bool n.2.2.1,.sl (canon n.2.2.2).length 1 (natG .u32 (canon n.2.2.2))]]))) (by kernel_rfl) ?_
 simp only [Tree.holds,zd]
 refine⟨(s,t),⟨by simp,hs,ht⟩,⟨_,rfl⟩,?_⟩
 rintro _ rfl
 refine⟨fun he=> ?_,fun he=> ?_⟩
 ·have he:zB s t≠0:=by
   intro h; simp [h] at he
  have e:gcdR s t=([],zB s t):=by simp [gcdR,he]
  simp only [if_neg he]
  rw [e] at hq
  exact RetR.scal hq rfl (by simp [resV])
 ·have he:zB s t=0:=by
   refine Decidable.byContradiction fun h=> ?_
   simp [h] at he
  simp only [if_pos he]
  have e:gcdR s t=wr false (Nat.gcd (numI s) (numI t)):=by simp [gcdR,he]
  rw [e] at hq
  obtain⟨h1,h2⟩:=zK.1 he
  have b1:=jP.2 (yW h1)
  have b2:=jP.2 (yW h2)
  clear e he h1 h2 hs ht
  generalize numI s=x0 at *
  generalize numI t=y0 at *
  refine zb.loop (ι:={z:Bool×Bool×Nat×Nat // Nat.gcd z.2.2.1 z.2.2.2=Nat.gcd x0 y0∧z.2.2.1<B^112∧z.2.2.2<B^112}) (fun _=>SGc) (fun z=>HGc z.1.1 z.1.2.1 z.1.2.2.1 z.1.2.2.2) (fun z=>z.1.2.2.2) ⟨(negI s,negI t,x0,y0),rfl,b1,b2⟩ 0 ?_ ?_ (by kernel_rfl)
  ·exact⟨by simp [SGc],by simp [HGc,magS,natS,za],by kernel_rfl,Nat.zero_le _⟩
  ·rintro⟨⟨m,n,x,y⟩,hg,hx,hy⟩
   simp only at hg hx hy
   refine zb.run hmix zky [6,7] 400 (T:=.ite (decide ((0:Int)<(↑(canon y).length:Int))) (.ex (fun(x_1:Nat×Nat)=>eqL [AV.sl (canon x).length 1 (natG .u32 (canon x)),AV.sl (canon y).length 1 (natG .u32 (canon y))] [AV.sl (canon x_1.1).length 1 (natG .u32 (canon x_1.1)),AV.sl (canon x_1.2).length 1 (natG .u32 (canon x_1.2))]∧List.length (canon x_1.1)<100000∧List.length (canon x_1.2)<100000∧0<x_1.2) fun n_1=>.all (fun(r:Nat×Nat)=>r=(n_1.1/n_1.2,n_1.1%n_1.2)) fun n_2=>.leaf (.back 0 [(6,.ptr 0 0),(7,.ptr 1 0)] [.box [.bool m,.sl (canon y).length 1 (natG .u32 (canon y))],.box [.bool n,.sl (canon n_2.2).length 1 (natG .u32 (canon n_2.2))]])) (.ex (fun(x_1:Bool×Nat)=>eqL [AV.agg [AV.bool false,AV.sl (canon x).length 1 (natG .u32 (canon x))]] [AV.agg [AV.bool x_1.1,AV.sl (canon x_1.2).length 1 (natG .u32 (canon x_1.2))]]∧List.length (canon x_1.2)<1000000) fun n_1=>.all (fun(r:List UInt8×Int)=>r=wr n_1.1 n_1.2) fun n_2=>.leaf (.ret [.str n_2.1,.int .i64 n_2.2] [.box [.bool m,.sl (canon x).length 1 (natG .u32 (canon x))],.box [.bool n,.sl (canon y).length 1 (natG .u32 (canon y))]]))) (by kernel_rfl) ?_
   simp only [Tree.holds,zd,inR,lo,hi]
   refine⟨fun h0=> ?_,fun h0=> ?_⟩
   ·have hy0:0<y:=by
     rcases Nat.eq_zero_or_pos y with h | h
     ·rw [h] at h0; simp [canon] at h0
     ·exact h
    refine⟨(x,y),⟨by simp [za],?_,?_,hy0⟩,⟨_,rfl⟩,?_⟩
    ·have:=jP.1 hx; show(canon x).length<100000; omega
    ·have:=jP.1 hy; show(canon y).length<100000; omega
    rintro _ rfl
    simp only
    rw [if_pos trivial]
    refine⟨⟨(m,n,y,x%y),?_,hy,Nat.lt_trans (Nat.mod_lt x hy0) hy⟩,Nat.mod_lt x hy0,by simp [SGc],by simp [HGc,magS,natS,za],by kernel_rfl,Nat.zero_le _⟩
    show Nat.gcd y (x%y)=Nat.gcd x0 y0
    rw [← hg,Nat.gcd_comm x y,Nat.gcd_rec y x,Nat.gcd_comm]
   ·have hy0:y=0:=yv.1 (by have h0:=of_decide_eq_false h0; omega)
    subst hy0
    refine⟨(false,x),⟨by simp [za],?_⟩,⟨_,rfl⟩,?_⟩
    ·have:=jP.1 hx; show(canon x).length<1000000; omega
    rintro _ rfl
    rw [Nat.gcd_zero_right] at hg
    rw [← hg] at hq
    exact RetR.scal hq rfl (by simp [resV])
noncomputable def K154:List Go.Sx.Item:=[.code (Tryz.f154.body.getD .skip)]
noncomputable def K155:List Go.Sx.Item:=[.code (Tryz.f155.body.getD .skip)]
theorem xA{h:Heap}{i sz off n n':Nat}{g:Nat→Nat→AV}(hb:h[i]?=some (.arr n' sz g))(hn:off+n≤n'):exp0 h [] (.osl i sz off n) = .sl n sz (zg g off):=by
 simp [exp0,z6,frz1,j5,hb,hn]
theorem Je{h:Heap}{i sz off n n':Nat}{g:Nat→Nat→AV}(hb:h[i]?=some (.arr n' sz g))(hn:off+n≤n')(hs:∀ j o,j<n→o<sz→qL (zg g off j o)=true):new0 h [] (.osl i sz off n):=by
 simp only [new0]
 intro _
 rw [xA hb hn]
 exact hs
theorem Yh(k:IntKind)(l:List Nat)(off j o:Nat):qL (zg (natG k l) off j o)=true:=by
 simp [zg,natG,qL]
theorem UO(g:Nat→Nat→AV):zg g 0=g:=by
 funext j o; simp [zg]
theorem RetR.nats{ctr:Ctr}{Q:AV×Heap→Prop}{h:Heap}{i:Nat}{k:IntKind}{l:List Nat}(hq:Q (natS k l,[]))(hb:h[i]?=some (.arr l.length 1 (natG k l))):RetR ctr 0 Q [.osl i 1 0 l.length] h:=by
 refine RetR.out0 hq (fun _=> ?_) ?_
 ·exact Je hb (by omega) fun j o _ _=>Yh _ _ _ _ _
 ·have e:exp2 h [] (resV [.osl i 1 0 l.length])=exp0 h [] (.osl i 1 0 l.length):=rfl
  rw [e,xA hb (by omega),UO]
  simp [eqA2,natS,za]
abbrev nat6(l:List Nat):AV:=natS .i64 l
def atC:Ctr:=ctrP true (fun p:List Nat×Nat=>[nat6 p.1,.int .i64 (p.2:Int)]) (fun p=>True) (fun p r=>r=p.1.getD p.2 0) (fun _ (r:Nat)=>(.int .i64 (r:Int),[]))
theorem zn4:zc Tryz.prog 161 atC:=by
 refine zf (fn:=Tryz.f161) (c:=Tryz.f161.body.getD .skip) rfl rfl rfl fun p hp O w0 Q hq=> ?_
 obtain⟨l,i⟩:=p
 replace hq:=hq _ rfl
 simp only at hq
 refine zb.run hmix zF [] 400 (T:=.ite (decide ((↑i:Int)<l.length)) (.side ((0:Int)≤i∧(↑i:Int)<l.length) (.leaf (.ret [.int .i64 (↑(l.getD (↑i:Int).toNat 0):Int)] []))) (.leaf (.ret [.int .i64 0] []))) (by kernel_rfl) ?_
 simp only [Tree.holds,zd,inR,lo,hi,Int.toNat_natCast]
 refine⟨fun h=> ?_,fun h=> ?_⟩
 ·have h:i<l.length:=by have:=of_decide_eq_true h; omega
  exact⟨by omega,fun _=>RetR.scal hq rfl (by simp [resV])⟩
 ·have h:l.length≤i:=by have:=of_decide_eq_false h; omega
  rw [wR h] at hq
  exact RetR.scal hq rfl (by simp [resV])
def Jc:Ctr:=ctrP true (fun p:List Nat×List Nat=>[nat6 p.1,nat6 p.2]) (fun p=>Ten.dig p.1∧Ten.dig p.2∧p.1.length<2^62∧p.2.length<2^62) (fun p r=>r=cmpN (Ten.val p.1) (Ten.val p.2)) (fun _ (r:Int)=>(.int .i64 r,[]))
def SGr(l m:List Nat)(i:Nat):KV:=[(0,nat6 l),(1,nat6 m),(5,.int .i64 ((i:Int) - 1))]
noncomputable def GR:Nat→Option Ctr:=fun f=>if f=161 then some (atC) else none
theorem zag:∀ g c,GR g=some c→zc Tryz.prog g c:=okIf zn4 (zp)
theorem Qz:zc Tryz.prog 154 Jc:=by
 refine zf (fn:=Tryz.f154) (c:=Tryz.f154.body.getD .skip) rfl rfl rfl fun p hp O w0 Q hq=> ?_
 obtain⟨l,m⟩:=p
 obtain⟨hl,hm,hll,hml⟩:=hp
 replace hq:=hq _ rfl
 simp only at hq hl hm hll hml
 refine zb.run hmix zag [0,1,5] 400 (T:=.side (inR .i64 (max (↑l.length:Int) (↑m.length:Int) - (1:Int))) (.leaf (.loop (Prod.fst (lps K154 0)) (Prod.snd (lps K154 0)) [(0,.sl l.length 1 (natG .i64 l)),(1,.sl m.length 1 (natG .i64 m)),(5,.int .i64 (max (↑l.length:Int) (↑m.length:Int) - (1:Int)))] []))) (by kernel_rfl) ?_
 simp only [Tree.holds,zd,inR,lo,hi,Int.toNat_natCast]
 refine⟨by omega,fun _=> ?_⟩
 refine zb.loop (ι:={i:Nat // i≤max l.length m.length∧∀ j,i≤j→l.getD j 0=m.getD j 0}) (fun i=>SGr l m i.1) (fun _=>[]) (fun i=>i.1) ⟨max l.length m.length,Nat.le_refl _,fun j hj=>by rw [wR (by omega),wR (by omega)]⟩ 0 ?_ ?_ (by kernel_rfl)
 ·exact⟨by simp [SGr,natS,za]; omega,by simp,by kernel_rfl,Nat.zero_le _⟩
 ·rintro⟨i,hil,hie⟩
  refine zb.run hmix zag [0,1,5] 400 (T:=.ite (decide ((0:Int)≤i - (1:Int))) (.ex (fun(x:List Nat×Nat)=>eqL [AV.sl l.length 1 (natG .i64 l),AV.int .i64 ((↑i:Int) - (1:Int))] [AV.sl x.1.length 1 (natG .i64 x.1),AV.int .i64 x.2]∧True) fun n=>.all (fun(r:Nat)=>r=List.getD n.1 n.2 0) fun n=>.ex (fun(x:List Nat×Nat)=>eqL [AV.sl m.length 1 (natG .i64 m),AV.int .i64 ((↑i:Int) - (1:Int))] [AV.sl x.1.length 1 (natG .i64 x.1),AV.int .i64 x.2]∧True) fun n_1=>.all (fun(r:Nat)=>r=List.getD n_1.1 n_1.2 0) fun n_2=>.ite (!decide ((↑n:Int)=n_2)) (.ex (fun(x:List Nat×Nat)=>eqL [AV.sl l.length 1 (natG .i64 l),AV.int .i64 ((↑i:Int) - (1:Int))] [AV.sl x.1.length 1 (natG .i64 x.1),AV.int .i64 x.2]∧True) fun n=>.all (fun(r:Nat)=>r=List.getD n.1 n.2 0) fun n=>.ex (fun(x:List Nat×Nat)=>eqL [AV.sl m.length 1 (natG .i64 m),AV.int .i64 ((↑i:Int) - (1:Int))] [AV.sl x.1.length 1 (natG .i64 x.1),AV.int .i64 x.2]∧True) fun n_3=>.all (fun(r:Nat)=>r=List.getD n_3.1 n_3.2 0) fun n_4=>.ite (decide ((↑n_4:Int)<n)) (.leaf (.ret [.int .i64 1] [])) (.leaf (.ret [.int .i64 (-1:Int)] []))) (.side (inR .i64 ((↑i:Int) - (1:Int) - (1:Int))) (.leaf (.back 0 [(0,.sl l.length 1 (natG .i64 l)),(1,.sl m.length 1 (natG .i64 m)),(5,.int .i64 ((↑i:Int) - (1:Int) - (1:Int)))] [])))) (.leaf (.ret [.int .i64 0] []))) (by kernel_rfl) ?_
  simp only [Tree.holds,zd,inR,lo,hi,Int.toNat_natCast]
  refine⟨fun hlt=> ?_,fun hge=> ?_⟩
  ·have hlt:0<i:=by have:=of_decide_eq_true hlt; omega
   have e:(i:Int) - 1=((i - 1:Nat):Int):=by omega
   refine⟨(l,i - 1),⟨by simp [za,e],trivial⟩,⟨_,rfl⟩,?_⟩
   rintro _ rfl
   refine⟨(m,i - 1),⟨by simp [za,e],trivial⟩,⟨_,rfl⟩,?_⟩
   rintro _ rfl
   simp only
   refine⟨fun hne=> ?_,fun heq=>⟨by omega,fun _=> ?_⟩⟩
   ·have hne:l.getD (i - 1) 0≠m.getD (i - 1) 0:=by
     intro h; rw [h] at hne; simp at hne
    have hab:∀ j,i - 1<j→l.getD j 0=m.getD j 0:=fun j hj=>hie j (by omega)
    refine⟨(l,i - 1),⟨by simp [za,e],trivial⟩,⟨_,rfl⟩,?_⟩
    rintro _ rfl
    refine⟨(m,i - 1),⟨by simp [za,e],trivial⟩,⟨_,rfl⟩,?_⟩
    rintro _ rfl
    simp only
    refine⟨fun h=> ?_,fun h=> ?_⟩
    ·have h:m.getD (i - 1) 0<l.getD (i - 1) 0:=by have:=of_decide_eq_true h; omega
     have hv:=W8 hm (fun j hj=>(hab j hj).symm) h
     have:cmpN (Ten.val l) (Ten.val m)=1:=by simp only [cmpN]; rw [if_neg (by omega),if_pos hv]
     rw [this] at hq
     exact RetR.scal hq rfl (by simp [resV])
    ·have h:l.getD (i - 1) 0<m.getD (i - 1) 0:=by have:=of_decide_eq_false h; omega
     have hv:=W8 hl hab h
     have:cmpN (Ten.val l) (Ten.val m) = -1:=by simp only [cmpN]; rw [if_pos hv]
     rw [this] at hq
     exact RetR.scal hq rfl (by simp [resV])
   ·have heq:l.getD (i - 1) 0=m.getD (i - 1) 0:=by
     refine Decidable.byContradiction fun h=> ?_
     have:¬ ((l.getD (i - 1) 0:Nat):Int)=((m.getD (i - 1) 0:Nat):Int):=by omega
     rw [decide_eq_false this] at heq; cases heq
    rw [if_pos trivial]
    refine⟨⟨i - 1,by omega,fun j hj=> ?_⟩,by show i - 1<i; omega,by simp [SGr,natS,za]; omega,by simp,by kernel_rfl,Nat.zero_le _⟩
    rcases Nat.lt_or_ge j i with h | h
    ·have:j=i - 1:=by omega
     rw [this]; exact heq
    ·exact hie j h
  ·have hge:i=0:=by have:=of_decide_eq_false hge; omega
   subst hge
   have hv:=QD hl hm fun j=>hie j (Nat.zero_le _)
   have:cmpN (Ten.val l) (Ten.val m)=0:=by simp only [cmpN]; rw [if_neg (by omega),if_neg (by omega)]
   rw [this] at hq
   exact RetR.scal hq rfl (by simp [resV])
def zls(p:List Nat×List Nat)(r:List Nat):Prop:=r.length=p.1.length∧Ten.dig r∧Ten.val r+Ten.val p.2=Ten.val p.1
def zb6:Ctr:=ctrP true (fun p:List Nat×List Nat=>[nat6 p.1,nat6 p.2]) (fun p=>Ten.dig p.1∧Ten.dig p.2∧p.1.length<2^40∧Ten.val p.2≤Ten.val p.1) zls (fun _ r=>(nat6 r,[]))
def SMi(l m o:List Nat)(b i:Nat):KV:=[(0,nat6 l),(1,nat6 m),(5,.osl 0 1 0 o.length),(6,.int .i64 (b:Int)),(7,.int .i64 (i:Int))]
theorem zcz:zc Tryz.prog 155 zb6:=by
 refine zf (fn:=Tryz.f155) (c:=Tryz.f155.body.getD .skip) rfl rfl rfl fun p hp O w0 Q hq=> ?_
 obtain⟨l,m⟩:=p
 obtain⟨hl,hm,hll,hml⟩:=hp
 simp only at hq hl hm hll hml
 refine zb.run hmix zag [0,1,5,6,7] 400 (T:=.leaf (.loop (Prod.fst (lps K155 0)) (Prod.snd (lps K155 0)) [(0,.sl l.length 1 (natG .i64 l)),(1,.sl m.length 1 (natG .i64 m)),(5,.nils),(6,.int .i64 0),(7,.int .i64 0)] [])) (by kernel_rfl) ?_
 simp only [Tree.holds,zd,inR,lo,hi,Int.toNat_natCast]
 refine zb.bear 5 1 (natG .i64 []) rfl (by decide) (by kernel_rfl) ?_
 refine zb.loop (ι:={z:List Nat×Nat×Nat // z.1.length=z.2.2∧z.2.2≤l.length∧Ten.dig z.1∧z.2.1≤1∧Ten.val z.1+Ten.val (m.take z.2.2)=Ten.val (l.take z.2.2)+10^z.2.2*z.2.1}) (fun z=>SMi l m z.1.1 z.1.2.1 z.1.2.2) (fun z=>[.arr z.1.1.length 1 (natG .i64 z.1.1)]) (fun z=>l.length - z.1.2.2) ⟨([],0,0),rfl,Nat.zero_le _,by simp [Ten.dig],Nat.zero_le _,by simp [Ten.val]⟩ 0 ?_ ?_ (by kernel_rfl)
 ·refine⟨by simp [SMi,natS,za,k5],by simp [za],by kernel_rfl,Nat.zero_le _⟩
 ·rintro⟨⟨o,b,i⟩,hol,hil,hod,hb,hv⟩
  refine zb.run hmix zag [0,1,5,6,7] 400 (T:=.ite (decide ((↑i:Int)<l.length)) (.side ((0:Int)≤i∧(↑i:Int)<l.length) (.ex (fun(x:List Nat×Nat)=>eqL [AV.sl m.length 1 (natG .i64 m),AV.int .i64 i] [AV.sl x.1.length 1 (natG .i64 x.1),AV.int .i64 x.2]∧True) fun n=>.all (fun(r:Nat)=>r=List.getD n.1 n.2 0) fun n=>.side (inR .i64 ((↑(l.getD (↑i:Int).toNat 0):Int) - n)) (.side (inR .i64 ((↑(l.getD (↑i:Int).toNat 0):Int) - n - (↑b:Int))) (.ite (decide ((↑(l.getD (↑i:Int).toNat 0):Int) - n - (↑b:Int)<0)) (.side (inR .i64 ((↑(l.getD (↑i:Int).toNat 0):Int) - n - (↑b:Int)+(10:Int))) (.side (0=0∧o.length≤o.length∧(o.length+1)*8≤140737488355328) (.side (inR .i64 ((↑i:Int)+(1:Int))) (.leaf (.back 0 [(0,.sl l.length 1 (natG .i64 l)),(1,.sl m.length 1 (natG .i64 m)),(5,.osl 0 1 0 (o.length+1)),(6,.int .i64 1),(7,.int .i64 ((↑i:Int)+(1:Int)))] [.arr (o.length+1) 1 (appG o.length (natG .i64 o) (zg (zh 1 [.int .i64 ((↑(l.getD (↑i:Int).toNat 0):Int) - n - (↑b:Int)+(10:Int))]) 0)),.arr 1 1 (zh 1 [.int .i64 ((↑(l.getD (↑i:Int).toNat 0):Int) - n - (↑b:Int)+(10:Int))])]))))) (.side (0=0∧o.length≤o.length∧(o.length+1)*8≤140737488355328) (.side (inR .i64 ((↑i:Int)+(1:Int))) (.leaf (.back 0 [(0,.sl l.length 1 (natG .i64 l)),(1,.sl m.length 1 (natG .i64 m)),(5,.osl 0 1 0 (o.length+1)),(6,.int .i64 0),(7,.int .i64 ((↑i:Int)+(1:Int)))] [.arr (o.length+1) 1 (appG o.length (natG .i64 o) (zg (zh 1 [.int .i64 ((↑(l.getD (↑i:Int).toNat 0):Int) - n - (↑b:Int))]) 0)),.arr 1 1 (zh 1 [.int .i64 ((↑(l.getD (↑i:Int).toNat 0):Int) - n - (↑b:Int))])])))))))) (.leaf (.ret [.osl 0 1 0 o.length] [.arr o.length 1 (natG .i64 o)]))) (by kernel_rfl) ?_
  simp only [Tree.holds,zd,inR,lo,hi,Int.toNat_natCast]
  simp only at hol hil hod hb hv
  refine⟨fun hlt=> ?_,fun hge=> ?_⟩
  ·have hlt:i<l.length:=by have:=of_decide_eq_true hlt; omega
   refine⟨by omega,fun _=> ?_⟩
   refine⟨(m,i),⟨by simp [za],trivial⟩,⟨_,rfl⟩,?_⟩
   rintro _ rfl
   simp only
   have h1:l.getD i 0<10:=Ten.zM hl i
   have h2:m.getD i 0<10:=Ten.zM hm i
   have step:∀ d b',d+m.getD i 0+b=l.getD i 0+10*b'→Ten.val (o++[d])+Ten.val (m.take (i+1))=Ten.val (l.take (i+1))+10^(i+1)*b':=by
    intro d b' h
    rw [Ten.zG,Ten.zt,Ten.zt,hol,Nat.pow_succ]
    have:=Y0 hv h
    simpa [Ten.val] using this
   obtain⟨x,hx⟩:∃ x,l.getD i 0=x:=⟨_,rfl⟩
   obtain⟨y,hy⟩:∃ y,m.getD i 0=y:=⟨_,rfl⟩
   simp only [hx,hy] at h1 h2 step ⊢
   iterate 2 refine⟨by clear step; omega,fun _=> ?_⟩
   have ei:((i:Int)+1)=((i+1:Nat):Int):=by omega
   refine⟨fun hneg=> ?_,fun hpos=> ?_⟩
   ·have hneg:x<y+b:=by have:=of_decide_eq_true hneg; clear step; omega
    refine⟨by clear step; omega,fun _=> ?_⟩
    refine⟨⟨trivial,Nat.le_refl _,by clear step; omega⟩,fun _=>⟨by clear step; omega,fun _=> ?_⟩⟩
    rw [if_pos trivial]
    obtain⟨d,hd⟩:∃ d,d+y+b=x+10:=⟨x+10 - y - b,by clear step; omega⟩
    have hd2:(x:Int) - y - b+10=(d:Nat):=by clear step; omega
    refine⟨⟨(o++[d],1,i+1),by simp [hol],hlt,Ten.q8.2 ⟨hod,by simp only [Ten.dig,List.mem_singleton]; rintro _ rfl; show _<10; clear step; omega⟩,Nat.le_refl _,step d 1 (by clear step; omega)⟩,by show l.length - (i+1)<l.length - i; omega,?_,ji hd2,by kernel_rfl,Nat.zero_le _⟩
    simp [SMi,natS,za]
   ·have hpos:y+b≤x:=by have:=of_decide_eq_false hpos; clear step; omega
    refine⟨⟨trivial,Nat.le_refl _,by clear step; omega⟩,fun _=>⟨by clear step; omega,fun _=> ?_⟩⟩
    rw [if_pos trivial]
    obtain⟨d,hd⟩:∃ d,d+y+b=x:=⟨x - y - b,by clear step; omega⟩
    have hd2:(x:Int) - y - b=(d:Nat):=by clear step; omega
    refine⟨⟨(o++[d],0,i+1),by simp [hol],hlt,Ten.q8.2 ⟨hod,by simp only [Ten.dig,List.mem_singleton]; rintro _ rfl; show _<10; clear step; omega⟩,Nat.zero_le _,step d 0 (by clear step; omega)⟩,by show l.length - (i+1)<l.length - i; omega,?_,ji hd2,by kernel_rfl,Nat.zero_le _⟩
    simp [SMi,natS,za]
  ·have hge:i=l.length:=by have:=of_decide_eq_false hge; omega
   subst hge
   exact RetR.nats (hq o ⟨hol,hod,zd0 hl hod hol hml hv⟩) rfl
noncomputable def K141:List Go.Sx.Item:=[.code (Tryz.f141.body.getD .skip)]
noncomputable def K101:List Go.Sx.Item:=[.code (Tryz.f101.body.getD .skip)]
def zkt:Ctr:=ctrP true (fun l:List Nat=>[nat6 l]) (fun l=>Ten.dig l∧l.length<2^62) (fun l r=>r=decide (Ten.val l=0)) (fun _ (r:Bool)=>(.bool r,[]))
noncomputable def GR1:Nat→Option Ctr:=fun f=>if f=154 then some (Jc) else none
theorem zmi:∀ g c,GR1 g=some c→zc Tryz.prog g c:=okIf Qz (zp)
theorem zib:zc Tryz.prog 139 zkt:=by
 refine zf (fn:=Tryz.f139) (c:=Tryz.f139.body.getD .skip) rfl rfl rfl fun l hp O w0 Q hq=> ?_
 obtain⟨hl,hll⟩:=hp
 replace hq:=hq _ rfl
 refine zb.run hmix zmi [] 400 (T:=.ex (fun(x:List Nat×List Nat)=>eqL [AV.sl l.length 1 (natG .i64 l),AV.nils] [AV.sl x.1.length 1 (natG .i64 x.1),AV.sl x.2.length 1 (natG .i64 x.2)]∧Ten.dig x.1∧Ten.dig x.2∧x.1.length<4611686018427387904∧x.2.length<4611686018427387904) fun n=>.all (fun(r:Int)=>r=cmpN (Ten.val n.1) (Ten.val n.2)) fun n=>.leaf (.ret [.bool (decide (n=0))] [])) (by kernel_rfl) ?_
 simp only [Tree.holds,zd]
 refine⟨(l,[]),⟨by simp [za],hl,by simp [Ten.dig],hll,by simp⟩,⟨_,rfl⟩,?_⟩
 rintro _ rfl
 have:decide (cmpN (Ten.val l) (Ten.val [])=0)=decide (Ten.val l=0):=by
  have e:Ten.val []=0:=rfl
  rw [e]
  by_cases h:Ten.val l=0
  ·rw [h]; rfl
  ·have:cmpN (Ten.val l) 0=1:=by unfold cmpN; rw [if_neg (by omega),if_pos (by omega)]
   rw [this,decide_eq_false h]; rfl
 rw [← this] at hq
 exact RetR.scal hq rfl (by simp [resV])
def YJ:Ctr:=ctrP true (fun p:List Nat×Bool=>[nat6 p.1,.bool p.2]) (fun p=>Ten.dig p.1∧p.1.length<2^40) (fun p r=>r=y8 p.2 (Ten.val p.1)) (fun _ r=>(.str r,[]))
def STx(l:List Nat)(neg:Bool)(n:Nat):KV:=[(0,nat6 l),(1,.bool neg),(5,.int .i64 (n:Int)),(6,.undef),(7,.undef),(13,.undef),(14,.undef),(15,.undef),(16,.undef),(17,.undef),(18,.undef)]
def STy(l:List Nat)(neg:Bool)(n i:Nat)(b:List Nat):KV:=[(0,nat6 l),(1,.bool neg),(5,.int .i64 (n:Int)),(6,.osl 1 1 0 b.length),(7,.int .i64 ((i:Int) - 1)),(13,.undef),(14,.undef),(15,.undef),(16,.undef),(17,.undef),(18,.undef)]
theorem Ww{O:Nat→Prop}{w0:World}{Q:AV×Heap→Prop}{Hs:Nat→KV→Heap→Prop}(l:List Nat)(neg:Bool)(n:Nat)(hl:Ten.dig l)(hll:l.length<2^40)(hn:n≤l.length)(ht:n=Ten.tlen l)(h0:0<n)(hq:Q (.str (y8 neg (Ten.val l)),[]))(kv:KV)(h:Heap)
  (hle:LeK 0 Tryz.f141.ntmps kv h (STy l neg n n (tbL l neg n n)) [.dead,.arr (tbL l neg n n).length 1 (natG .u8 (tbL l neg n n))]) :
  zb Tryz.prog Tryz.f141 O 0 w0 [] Hs (RetR YJ 0 Q) (.code (.loop (lps (inside K141 0) 0).1)::(lps (inside K141 0) 0).2) (mk Tryz.f141.ntmps kv h):=by
 refine zb.loop (ι:={i:Nat // i≤n}) (fun i=>STy l neg n i.1 (tbL l neg n i.1)) (fun i=>[.dead,.arr (tbL l neg n i.1).length 1 (natG .u8 (tbL l neg n i.1))]) (fun i=>i.1) ⟨n,Nat.le_refl _⟩ 0 hle ?_ (by kernel_rfl)
 rintro⟨i,hin⟩
 obtain⟨b,hb⟩:∃ b,tbL l neg n i=b:=⟨_,rfl⟩
 have hbl:=zjn l neg n i
 simp only [hb] at hbl ⊢
 refine zb.run hmix zF [0,1,5,6,7,13,14,15,16,17,18] 400 (T:=.ite (decide ((0:Int)≤i - (1:Int))) (.side ((0:Int)≤i - (1:Int)∧(↑i:Int) - (1:Int)<l.length) (.side (inR .i64 ((48:Int)+(↑(l.getD (Int.toNat ((↑i:Int) - (1:Int))) 0):Int))) (.side (inR .u8 ((48:Int)+(↑(l.getD (Int.toNat ((↑i:Int) - (1:Int))) 0):Int))) (.side (0=0∧b.length≤b.length∧(b.length+1)*1≤140737488355328) (.side (inR .i64 ((↑i:Int) - (1:Int) - (1:Int))) (.leaf (.back 0 [(0,.sl l.length 1 (natG .i64 l)),(1,.bool neg),(5,.int .i64 n),(6,.osl 1 1 0 (b.length+1)),(7,.int .i64 ((↑i:Int) - (1:Int) - (1:Int))),(13,.undef),(14,.undef),(15,.undef),(16,.undef),(17,.undef),(18,.undef)] [.dead,.arr (b.length+1) 1 (appG b.length (natG .u8 b) (zg (zh 1 [.int .u8 ((48:Int)+(↑(l.getD (Int.toNat ((↑i:Int) - (1:Int))) 0):Int))]) 0)),.arr 1 1 (zh 1 [.int .u8 ((48:Int)+(↑(l.getD (Int.toNat ((↑i:Int) - (1:Int))) 0):Int))])]))))))) (.side (∀ (j:Nat),j<b.length→∃ (b_1:UInt8),AV.int .u8 (↑(b.getD (0+j) 0):Int)=AV.int .u8 (↑(UInt8.toNat b_1):Int)) (.leaf (.ret [.str (vj b.length (zg (natG .u8 b) 0))] [.dead,.arr b.length 1 (natG .u8 b)])))) (by kernel_rfl) ?_
 simp only [Tree.holds,zd,inR,lo,hi,Int.toNat_natCast]
 refine⟨fun hge=> ?_,fun hlt=> ?_⟩
 ·have hi0:0<i:=by have:=of_decide_eq_true hge; omega
  have e:((i:Int) - 1).toNat=i - 1:=by omega
  have hd:l.getD (i - 1) 0<10:=Ten.zM hl (i - 1)
  have hst:=zds (l:=l) (neg:=neg) hi0 hin hn
  rw [hb] at hst
  rw [e]
  obtain⟨x,hx⟩:∃ x,l.getD (i - 1) 0=x:=⟨_,rfl⟩
  simp only [hx] at hd hst ⊢
  iterate 3 refine⟨by omega,fun _=> ?_⟩
  refine⟨⟨trivial,Nat.le_refl _,by omega⟩,fun _=>⟨by omega,fun _=> ?_⟩⟩
  rw [if_pos trivial]
  refine⟨⟨i - 1,by omega⟩,by show i - 1<i; omega,?_,?_,by kernel_rfl,Nat.zero_le _⟩
  ·simp only [← hst]
   simp [STy,natS,za]; omega
  ·simp only [← hst]
   exact⟨trivial,ji (d:=48+x) (by omega)⟩
 ·have hi0:i=0:=by have:=of_decide_eq_false hlt; omega
  subst hi0
  refine⟨fun j hj=>⟨UInt8.ofNat (b.getD (0+j) 0),?_⟩,fun _=> ?_⟩
  ·have:=zmq hl neg n 0 (0+j)
   rw [hb] at this
   have e2:(UInt8.ofNat (b.getD (0+j) 0)).toNat=b.getD (0+j) 0:=by rw [UInt8.toNat_ofNat']; exact Nat.mod_eq_of_lt this
   rw [e2]
  ·rw [yU _ _ _ (Nat.le_refl _),List.take_length,← hb,YT hl ht h0]
   exact RetR.scal hq rfl (by simp [resV])
theorem zdp:zc Tryz.prog 141 YJ:=by
 refine zf (fn:=Tryz.f141) (c:=Tryz.f141.body.getD .skip) rfl rfl rfl fun p hp O w0 Q hq=> ?_
 obtain⟨l,neg⟩:=p
 obtain⟨hl,hll⟩:=hp
 replace hq:=hq _ rfl
 simp only at hq hl hll
 refine zb.run hmix zF [0,1,5,6,7,13,14,15,16,17,18] 400 (T:=.leaf (.loop (Prod.fst (lps K141 0)) (Prod.snd (lps K141 0)) [(0,.sl l.length 1 (natG .i64 l)),(1,.bool neg),(5,.int .i64 l.length),(6,.undef),(7,.undef),(13,.undef),(14,.undef),(15,.undef),(16,.undef),(17,.undef),(18,.undef)] [])) (by kernel_rfl) ?_
 simp only [Tree.holds,zd]
 refine zb.loop (ι:={n:Nat // n≤l.length∧Ten.tlen l≤n}) (fun n=>STx l neg n.1) (fun _=>[]) (fun n=>n.1) ⟨l.length,Nat.le_refl _,Ten.qi l⟩ 0 ?_ ?_ (by kernel_rfl)
 ·exact⟨by simp [STx,natS,za],by simp,by kernel_rfl,Nat.zero_le _⟩
 ·rintro⟨n,hn,ht⟩
  refine zb.run hmix zF [0,1,5,6,7,13,14,15,16,17,18] 400 (T:=.side (decide ((0:Int)<n)=true→inR .i64 ((↑n:Int) - (1:Int))) (.side (decide ((0:Int)<n)=true→(0:Int)≤n - (1:Int)∧(↑n:Int) - (1:Int)<l.length) (.ite (bif decide ((0:Int)<n) then decide ((↑(l.getD (Int.toNat ((↑n:Int) - (1:Int))) 0):Int)=0) else false) (.side (inR .i64 ((↑n:Int) - (1:Int))) (.leaf (.back 0 [(0,.sl l.length 1 (natG .i64 l)),(1,.bool neg),(5,.int .i64 ((↑n:Int) - (1:Int))),(6,.undef),(7,.undef),(13,.undef),(14,.undef),(15,.undef),(16,.undef),(17,.undef),(18,.undef)] []))) (.ite (decide ((↑n:Int)=0)) (.leaf (.ret [.str #[(48:UInt8)].toList] [])) (.ite neg (.side (1≤140737488355328) (.side (inR .i64 ((↑n:Int) - (1:Int))) (.leaf (.loop (Prod.fst (lps (inside K141 0) 0)) (Prod.snd (lps (inside K141 0) 0)) [(0,.sl l.length 1 (natG .i64 l)),(1,.bool neg),(5,.int .i64 n),(6,.osl 1 1 0 1),(7,.int .i64 ((↑n:Int) - (1:Int))),(13,.undef),(14,.undef),(15,.undef),(16,.undef),(17,.undef),(18,.undef)] [.arr 1 1 (zh 1 [.int .u8 45]),.arr 1 1 (zg (zh 1 [.int .u8 45]) 0)])))) (.side (inR .i64 ((↑n:Int) - (1:Int))) (.leaf (.loop (Prod.fst (lps (inside K141 0) 0)) (Prod.snd (lps (inside K141 0) 0)) [(0,.sl l.length 1 (natG .i64 l)),(1,.bool neg),(5,.int .i64 n),(6,.nils),(7,.int .i64 ((↑n:Int) - (1:Int))),(13,.undef),(14,.undef),(15,.undef),(16,.undef),(17,.undef),(18,.undef)] [])))))))) (by kernel_rfl) ?_
  simp only [Tree.holds,zd,inR,lo,hi,Int.toNat_natCast]
  refine⟨by omega,fun _=>⟨fun h=>by have:=of_decide_eq_true h; omega,fun _=>⟨fun hz=> ?_,fun hz=> ?_⟩⟩⟩
  ·have hn0:0<n:=by
    rcases Nat.eq_zero_or_pos n with h | h
    ·subst h; simp at hz
    ·exact h
   have e:((n:Int) - 1).toNat=n - 1:=by omega
   have hz:l.getD (n - 1) 0=0:=by
    rw [decide_eq_true (by omega),e] at hz
    have:=of_decide_eq_true hz
    omega
   refine⟨by omega,fun _=> ?_⟩
   rw [if_pos trivial]
   refine⟨⟨n - 1,by omega,?_⟩,by show n - 1<n; omega,by simp [STx,natS,za]; omega,by simp,by kernel_rfl,Nat.zero_le _⟩
   refine Nat.le_of_not_lt fun hlt=> ?_
   have hnt:n=Ten.tlen l:=by omega
   subst hnt
   exact Ten.qy l hn0 hz
  ·have e:((n:Int) - 1).toNat=n - 1:=by omega
   have hnt:n=Ten.tlen l:=by
    rcases Nat.eq_zero_or_pos n with h | h
    ·omega
    ·refine Nat.le_antisymm (Nat.le_of_not_lt fun hlt=> ?_) ht
     have:=Ten.jc l (n - 1) (by omega)
     rw [decide_eq_true (by omega),e,this] at hz
     simp at hz
   refine⟨fun h0=> ?_,fun h0=> ?_⟩
   ·have h0:n=0:=by have:=of_decide_eq_true h0; omega
    rw [zd8 (by omega)] at hq
    exact RetR.scal hq rfl (by simp [resV])
   ·have h0:0<n:=by have:=of_decide_eq_false h0; omega
    refine⟨fun hneg=>⟨by omega,fun _=>⟨by omega,fun _=> ?_⟩⟩,fun hneg=>⟨by omega,fun _=> ?_⟩⟩
    ·subst hneg
     refine Ww l true n hl hll hn hnt h0 hq _ _ ⟨?_,?_,by kernel_rfl,Nat.zero_le _⟩
     ·simp [STy,natS,za,Qw]
     ·simp only [Qw,if_true,List.length_singleton]
      refine⟨trivial,⟨rfl,rfl,?_⟩,trivial⟩
      intro j o hj ho
      simpa [zg] using kS .u8 45 j o hj ho
    ·subst hneg
     refine zb.void (by kernel_rfl) ?_
     refine zb.bear 6 1 (natG .u8 []) rfl (by decide) (by kernel_rfl) ?_
     refine Ww l false n hl hll hn hnt h0 hq _ _ ⟨?_,?_,by kernel_rfl,Nat.zero_le _⟩
     ·simp [STy,natS,za,Qw,k5]
     ·simp [Qw,za]
def yp:Ctr:=ctrP true (fun s:List UInt8=>[.str s]) (fun s=>s.length<2^40) (fun s r=>r=digR s) (fun _ r=>(.tup [nat6 r.1,.bool r.2.1,.bool r.2.2],[]))
def SDi(b:List UInt8)(neg:Bool)(i:Nat)(o:List Nat):KV:=[(5,.str b),(6,.bool neg),(7,.osl 0 1 0 o.length),(8,.int .i64 ((i:Int) - 1)),(49,.undef),(50,.undef),(51,.undef),(52,.undef)]
theorem ZV{O:Nat→Prop}{w0:World}{Q:AV×Heap→Prop}{Hs:Nat→KV→Heap→Prop}(b:List UInt8)(neg:Bool)(hbl:b.length<2^40)(hb0:b≠[])(hf:b.all isD=true→qx neg b=true)
  (hq:Q (.tup [nat6 (if qx neg b then(dg b,neg,true) else([],false,false)).1,.bool (if qx neg b then(dg b,neg,true) else([],false,false)).2.1,.bool (if qx neg b then(dg b,neg,true) else([],false,false)).2.2],[])) :
  zb Tryz.prog Tryz.f101 O 0 w0 [] Hs (RetR yp 0 Q) (.code (.loop (lps K101 0).1)::(lps K101 0).2) (mk Tryz.f101.ntmps [(5,.str b),(6,.bool neg),(7,.nils),(8,.int .i64 ((b.length:Int) - 1)),(49,.undef),(50,.undef),(51,.undef),(52,.undef)] []):=by
 refine zb.bear 7 1 (natG .i64 []) rfl (by decide) (by kernel_rfl) ?_
 refine zb.loop (ι:={i:Nat // i≤b.length∧∀ j,i≤j→j<b.length→isD (b.getD j 0)=true}) (fun i=>SDi b neg i.1 (dg (b.drop i.1))) (fun i=>[.arr (dg (b.drop i.1)).length 1 (natG .i64 (dg (b.drop i.1)))]) (fun i=>i.1) ⟨b.length,Nat.le_refl _,fun j h1 h2=>by omega⟩ 0 ?_ ?_ (by kernel_rfl)
 ·exact⟨by simp [SDi,k5,dg],by simp [dg,za],by kernel_rfl,Nat.zero_le _⟩
 ·rintro⟨i,hil,hid⟩
  have hdl:(dg (b.drop i)).length=b.length - i:=by rw [xY,List.length_drop]
  obtain⟨o,ho⟩:∃ o,dg (b.drop i)=o:=⟨_,rfl⟩
  simp only [ho] at hdl ⊢
  refine zb.run hmix zF [5,6,7,8,49,50,51,52] 400 (T:=.ite (decide ((0:Int)≤i - (1:Int))) (.side ((0:Int)≤i - (1:Int)∧(↑i:Int) - (1:Int)<b.length) (.side (decide ((↑(UInt8.toNat (b.getD (Int.toNat ((↑i:Int) - (1:Int))) (0:UInt8))):Int)<48)=false→(0:Int)≤i - (1:Int)∧(↑i:Int) - (1:Int)<b.length) (.ite (bif decide ((↑(UInt8.toNat (b.getD (Int.toNat ((↑i:Int) - (1:Int))) (0:UInt8))):Int)<48) then true else decide ((57:Int)<(↑(UInt8.toNat (b.getD (Int.toNat ((↑i:Int) - (1:Int))) (0:UInt8))):Int))) (.leaf (.ret [.nils,.bool false,.bool false] [.arr o.length 1 (natG .i64 o)])) (.side ((0:Int)≤i - (1:Int)∧(↑i:Int) - (1:Int)<b.length) (.side (inR .u8 ((↑(UInt8.toNat (b.getD (Int.toNat ((↑i:Int) - (1:Int))) (0:UInt8))):Int) - (48:Int))) (.side (inR .i64 ((↑(UInt8.toNat (b.getD (Int.toNat ((↑i:Int) - (1:Int))) (0:UInt8))):Int) - (48:Int))) (.side (0=0∧o.length≤o.length∧(o.length+1)*8≤140737488355328) (.side (inR .i64 ((↑i:Int) - (1:Int) - (1:Int))) (.leaf (.back 0 [(5,.str b),(6,.bool neg),(7,.osl 0 1 0 (o.length+1)),(8,.int .i64 ((↑i:Int) - (1:Int) - (1:Int))),(49,.undef),(50,.undef),(51,.undef),(52,.undef)] [.arr (o.length+1) 1 (appG o.length (natG .i64 o) (zg (zh 1 [.int .i64 ((↑(UInt8.toNat (b.getD (Int.toNat ((↑i:Int) - (1:Int))) (0:UInt8))):Int) - (48:Int))]) 0)),.arr 1 1 (zh 1 [.int .i64 ((↑(UInt8.toNat (b.getD (Int.toNat ((↑i:Int) - (1:Int))) (0:UInt8))):Int) - (48:Int))])])))))))))) (.leaf (.ret [.osl 0 1 0 o.length,.bool neg,.bool true] [.arr o.length 1 (natG .i64 o)]))) (by kernel_rfl) ?_
  simp only [Tree.holds,zd,inR,lo,hi,Int.toNat_natCast,Bool.cond_eq_ite]
  refine⟨fun hge=> ?_,fun hlt=> ?_⟩
  ·have hi0:0<i:=by have:=of_decide_eq_true hge; omega
   have e:((i:Int) - 1).toNat=i - 1:=by omega
   have hst:=zk9 hi0 hil
   rw [ho] at hst
   simp only [e]
   refine⟨by omega,fun _=>⟨fun _=>by omega,fun _=>⟨fun hbad=> ?_,fun hgood=>⟨by omega,fun _=> ?_⟩⟩⟩⟩
   ·rw [xW] at hbad
    have hnf:qx neg b=false:=by
     have:b.all isD=false:=by
      rw [List.all_eq_false]
      have hib:i - 1<b.length:=by omega
      refine⟨b.getD (i - 1) 0,by simp [List.getD,hib],by simpa using hbad⟩
     simp [qx,this]
    rw [hnf] at hq
    refine RetR.out0 hq (fun _=> ?_) ?_
    ·simp [resV,new2,new1,new0,qL]
    ·simp [resV,exp2,exp1,exp0,ren0,eqA2,eqL1,eqA,eqA0,natS]
   ·rw [xW] at hgood
    have hd:isD (b.getD (i - 1) 0)=true:=by simpa using hgood
    have hc:48≤(b.getD (i - 1) 0).toNat∧(b.getD (i - 1) 0).toNat≤57:=by simpa [isD] using hd
    obtain⟨c,hcc⟩:∃ c,(b.getD (i - 1) 0).toNat=c:=⟨_,rfl⟩
    simp only [hcc] at hc hst ⊢
    iterate 2 refine⟨by omega,fun _=> ?_⟩
    refine⟨⟨trivial,Nat.le_refl _,by omega⟩,fun _=>⟨by omega,fun _=> ?_⟩⟩
    rw [if_pos trivial]
    refine⟨⟨i - 1,by omega,fun j h1 h2=> ?_⟩,by show i - 1<i; omega,?_,?_,by kernel_rfl,Nat.zero_le _⟩
    ·rcases Nat.lt_or_ge j i with h | h
     ·have:j=i - 1:=by omega
      subst this; exact hd
     ·exact hid j h h2
    ·simp only [← hst]
     simp [SDi]; omega
    ·simp only [← hst]
     exact ji (d:=c - 48) (by omega)
  ·have hi0:i=0:=by have:=of_decide_eq_false hlt; omega
   subst hi0
   have hall:b.all isD=true:=by
    rw [List.all_eq_true]
    intro c hc
    obtain⟨j,hj,rfl⟩:=List.getElem_of_mem hc
    have:=hid j (Nat.zero_le _) hj
    simpa [List.getD,hj] using this
   rw [hf hall] at hq
   have ho:dg b=o:=ho
   simp only [if_true,ho] at hq
   have hb:([.arr o.length 1 (natG .i64 o)]:Heap)[0]?=some (.arr o.length 1 (natG .i64 o)):=rfl
   refine RetR.out0 hq (fun _=> ?_) ?_
   ·simp only [resV,new2,List.mem_cons,List.not_mem_nil,or_false,forall_eq_or_imp,forall_eq]
    exact⟨Je hb (by omega) fun j o _ _=>Yh _ _ _ _ _,rfl,rfl⟩
   ·simp only [resV,exp2,List.map_cons,List.map_nil,exp1]
    rw [xA hb (by omega),UO]
    simp [eqA2,eqL1,eqA,eqA0,natS,za,exp0,ren0]
theorem ZK:zc Tryz.prog 101 yp:=by
 refine zf (fn:=Tryz.f101) (c:=Tryz.f101.body.getD .skip) rfl rfl rfl fun s hs O w0 Q hq=> ?_
 replace hq:=hq _ rfl
 refine zb.run hmix zF [5,6,7,8,49,50,51,52] 400 (T:=.side (decide ((0:Int)<s.length)=true→(0:Int)≤0∧(0:Int)<s.length) (.ite (bif decide ((0:Int)<s.length) then decide ((↑(UInt8.toNat (s.getD 0 (0:UInt8))):Int)=45) else false) (.side ((0:Int)≤1∧(1:Int)≤s.length) (.side (decide ((↑(List.length (List.drop 1 (List.take s.length s))):Int)=0)=false→(0:Int)≤0∧(0:Int)<(↑(List.length (List.drop 1 (List.take s.length s))):Int)) (.ite (bif decide ((↑(List.length (List.drop 1 (List.take s.length s))):Int)=0) then true else bif decide ((↑(UInt8.toNat (List.getD (List.drop 1 (List.take s.length s)) 0 (0:UInt8))):Int)=48) then bif decide ((1:Int)<(↑(List.length (List.drop 1 (List.take s.length s))):Int)) then true else bif decide ((0:Int)<s.length) then decide ((↑(UInt8.toNat (s.getD 0 (0:UInt8))):Int)=45) else false else false) (.leaf (.ret [.nils,.bool false,.bool false] [])) (.side (inR .i64 ((↑(List.length (List.drop 1 (List.take s.length s))):Int) - (1:Int))) (.leaf (.loop (Prod.fst (lps K101 0)) (Prod.snd (lps K101 0)) [(5,.str (List.drop 1 (List.take s.length s))),(6,.bool (bif decide ((0:Int)<s.length) then decide ((↑(UInt8.toNat (s.getD 0 (0:UInt8))):Int)=45) else false)),(7,.nils),(8,.int .i64 ((↑(List.length (List.drop 1 (List.take s.length s))):Int) - (1:Int))),(49,.undef),(50,.undef),(51,.undef),(52,.undef)] [])))))) (.side (decide ((↑s.length:Int)=0)=false→(0:Int)≤0∧(0:Int)<s.length) (.ite (bif decide ((↑s.length:Int)=0) then true else bif decide ((↑(UInt8.toNat (s.getD 0 (0:UInt8))):Int)=48) then bif decide ((1:Int)<s.length) then true else bif decide ((0:Int)<s.length) then decide ((↑(UInt8.toNat (s.getD 0 (0:UInt8))):Int)=45) else false else false) (.leaf (.ret [.nils,.bool false,.bool false] [])) (.side (inR .i64 ((↑s.length:Int) - (1:Int))) (.leaf (.loop (Prod.fst (lps K101 0)) (Prod.snd (lps K101 0)) [(5,.str s),(6,.bool (bif decide ((0:Int)<s.length) then decide ((↑(UInt8.toNat (s.getD 0 (0:UInt8))):Int)=45) else false)),(7,.nils),(8,.int .i64 ((↑s.length:Int) - (1:Int))),(49,.undef),(50,.undef),(51,.undef),(52,.undef)] []))))))) (by kernel_rfl) ?_
 have bad:∀ h,digR s=([],false,false)→RetR yp 0 Q [.nils,.bool false,.bool false] h:=by
  intro h he
  rw [he] at hq
  refine RetR.out0 hq (fun _=> ?_) ?_
  ·simp [resV,new2,new1,new0,qL]
  ·simp [resV,exp2,exp1,exp0,ren0,eqA2,eqL1,eqA,eqA0,natS]
 have core:∀ neg b,parse s=(neg,b)→(if decide ((b.length:Int)=0)=true then true else if decide (((b.getD 0 0).toNat:Int)=48)=true then if decide (1<(b.length:Int))=true then true else neg else false)=true→digR s=([],false,false):=by
  intro neg b hp h
  have:qx neg b=false:=by
   by_cases hb:b=[]
   ·subst hb; simp [qx]
   ·have hl:¬ b.length=0:=by simpa using hb
    rw [if_neg (by simpa using hl)] at h
    split at h
    ·rename_i h48
     have h48:b.getD 0 0=48:=ZY (of_decide_eq_true h48)
     split at h
     ·rename_i h1; exact vZ h48 (by have:=of_decide_eq_true h1; omega)
     ·rename_i h1
      subst h
      have:b=[48]:=by
       cases b with
       | nil=>exact absurd rfl hb
       | cons c b=>
        have hl1:b=[]:=by
         refine List.length_eq_zero_iff.1 ?_
         have:¬ 1<(((c::b).length:Nat):Int):=fun h=>h1 (decide_eq_true h)
         simp only [List.length_cons] at this; omega
        subst hl1
        simp at h48; rw [h48]
      subst this; rfl
    ·cases h
  simp [digR,hp,this]
 have good:∀ neg b,parse s=(neg,b)→(if decide ((b.length:Int)=0)=true then true else if decide (((b.getD 0 0).toNat:Int)=48)=true then if decide (1<(b.length:Int))=true then true else neg else false)=false→b≠[]∧(b.all isD=true→qx neg b=true):=by
  intro neg b hp h
  have hb:b≠[]:=by rintro rfl; simp at h
  refine⟨hb,fun hall=> ?_⟩
  have hl:¬ b.length=0:=by simpa using hb
  rw [if_neg (by simpa using hl)] at h
  simp only [qx,hall,hb,Bool.and_true]
  simp only [decide_false,Bool.not_false,Bool.true_and]
  split at h
  ·rename_i h48
   split at h
   ·cases h
   ·rename_i h1
    subst h
    have:(decide (1<b.length))=false:=decide_eq_false fun h=>h1 (decide_eq_true (by omega))
    simp only [this,Bool.false_and,Bool.and_false,Bool.not_false,Bool.and_self]
  ·rename_i h48
   have e1:decide (b.getD 0 0=48)=false:=by
    refine decide_eq_false fun h=>h48 ?_
    rw [h]; rfl
   have e2:decide (b=[48])=false:=by
    refine decide_eq_false fun h=>h48 ?_
    rw [h]; rfl
   simp only [e1,e2,Bool.false_and,Bool.and_false,Bool.not_false,Bool.and_self]
 simp only [Tree.holds,zd,inR,lo,hi,Bool.cond_eq_ite]
 refine⟨fun h=>by have:=of_decide_eq_true h; omega,fun _=>⟨fun hneg=> ?_,fun hneg=> ?_⟩⟩
 ·simp only [hneg]
  obtain⟨b,rfl⟩:∃ b,s=45::b:=by
   cases s with
   | nil=>simp at hneg
   | cons c b=>
    have:c=45:=by
     have:((c.toNat:Nat):Int)=45:=by simpa using hneg
     exact ZY this
    exact⟨b,by rw [this]⟩
  have hd:List.drop 1 (List.take (45::b).length (45::b))=b:=by simp
  rw [hd]
  have hp:parse (45::b)=(true,b):=rfl
  refine⟨by simp; omega,fun _=>⟨fun h=>by have:=of_decide_eq_false h; omega,fun _=>⟨fun h=>bad _ (core true b hp h),fun h=>⟨by simp at hs; omega,fun _=> ?_⟩⟩⟩⟩
  obtain⟨g1,g2⟩:=good true b hp h
  refine ZV b true (by simp at hs; omega) g1 g2 ?_
  simpa only [digR,hp] using hq
 ·simp only [hneg]
  have hp:parse s=(false,s):=by
   cases s with
   | nil=>rfl
   | cons c b=>
    have:c≠45:=by
     rintro rfl; simp at hneg
    simp [parse,this]
  refine⟨fun h=>by have:=of_decide_eq_false h; omega,fun _=>⟨fun h=>bad _ (core false s hp h),fun h=>⟨by omega,fun _=> ?_⟩⟩⟩
  obtain⟨g1,g2⟩:=good false s hp h
  refine ZV s false hs g1 g2 ?_
  simpa only [digR,hp] using hq
noncomputable def K140:List Go.Sx.Item:=[.code (Tryz.f140.body.getD .skip)]
noncomputable def GR2:Nat→Option Ctr:=fun f=>if f=101 then some (yp) else none
theorem zlj:∀ g c,GR2 g=some c→zc Tryz.prog g c:=okIf ZK (zp)
def UR:Ctr:=ctrP true (fun s:List UInt8=>[.str s]) (fun s=>s.length<2^40) (fun s r=>r=errI s) (fun _ (r:Int)=>(.int .i64 r,[]))
theorem zbn:zc Tryz.prog 153 UR:=by
 refine zf (fn:=Tryz.f153) (c:=Tryz.f153.body.getD .skip) rfl rfl rfl fun s hs O w0 Q hq=> ?_
 replace hq:=hq _ rfl
 refine zb.run hmix zlj [] 400 (T:=.ex (fun(x:List UInt8)=>eqL [AV.str s] [AV.str x]∧x.length<1099511627776) fun n=>.all (fun(r:List Nat×Bool×Bool)=>r=digR n) fun n=>.ite (!Prod.snd n.2) (.leaf (.ret [.int .i64 12] [])) (.ite (decide ((1000:Int)<n.1.length)) (.leaf (.ret [.int .i64 14] [])) (.leaf (.ret [.int .i64 0] [])))) (by kernel_rfl) ?_
 simp only [Tree.holds,zd]
 refine⟨s,⟨by simp,hs⟩,⟨_,rfl⟩,?_⟩
 rintro _ rfl
 unfold errI at hq
 unfold digR
 cases hf:qx (parse s).1 (parse s).2 with
 | false=>
  rw [hf] at hq
  exact⟨fun _=>RetR.scal hq rfl (by simp [resV]),fun h=>by simp at h⟩
 | true=>
  rw [hf,if_pos rfl] at hq
  refine⟨fun h=>by simp at h,fun _=>⟨fun h=> ?_,fun h=> ?_⟩⟩
  ·have h:1000<(parse s).2.length:=by simp [xY] at h; omega
   rw [if_pos h] at hq
   exact RetR.scal hq rfl (by simp [resV])
  ·have h:¬ 1000<(parse s).2.length:=by simp [xY] at h; omega
   rw [if_neg h] at hq
   exact RetR.scal hq rfl (by simp [resV])
noncomputable def GR3:Nat→Option Ctr:=fun f=>if f=153 then some (UR) else none
theorem zml:∀ g c,GR3 g=some c→zc Tryz.prog g c:=okIf zbn (zp)
def zl1:Ctr:=ctrP true (fun p:List UInt8×List UInt8=>[.str p.1,.str p.2]) (fun p=>p.1.length<2^40∧p.2.length<2^40) (fun p r=>r=zB p.1 p.2) (fun _ (r:Int)=>(.int .i64 r,[]))
theorem zi4:zc Tryz.prog 138 zl1:=by
 refine zf (fn:=Tryz.f138) (c:=Tryz.f138.body.getD .skip) rfl rfl rfl fun p hp O w0 Q hq=> ?_
 obtain⟨s,t⟩:=p
 obtain⟨hs,ht⟩:=hp
 replace hq:=hq _ rfl
 simp only at hs ht hq
 refine zb.run hmix zml [] 400 (T:=.ex (fun(x:List UInt8)=>eqL [AV.str s] [AV.str x]∧x.length<1099511627776) fun n=>.all (fun(r:Int)=>r=errI n) fun n=>.ite (!decide (n=0)) (.ex (fun(x:List UInt8)=>eqL [AV.str s] [AV.str x]∧x.length<1099511627776) fun n=>.all (fun(r:Int)=>r=errI n) fun n=>.leaf (.ret [.int .i64 n] [])) (.ex (fun(x:List UInt8)=>eqL [AV.str t] [AV.str x]∧x.length<1099511627776) fun n=>.all (fun(r:Int)=>r=errI n) fun n=>.leaf (.ret [.int .i64 n] []))) (by kernel_rfl) ?_
 simp only [Tree.holds,zd]
 unfold zB at hq
 refine⟨s,⟨by simp,hs⟩,⟨_,rfl⟩,?_⟩
 rintro _ rfl
 refine⟨fun h=> ?_,fun h=> ?_⟩
 ·have h:¬ errI s=0:=by simpa using h
  rw [if_neg h] at hq
  refine⟨s,⟨by simp,hs⟩,⟨_,rfl⟩,?_⟩
  rintro _ rfl
  exact RetR.scal hq rfl (by simp [resV])
 ·have h:errI s=0:=by simpa using h
  rw [if_pos h] at hq
  refine⟨t,⟨by simp,ht⟩,⟨_,rfl⟩,?_⟩
  rintro _ rfl
  exact RetR.scal hq rfl (by simp [resV])
noncomputable def GR4:Nat→Option Ctr:=fun f=>if f=155 then some (zb6) else if f=154 then some (Jc) else none
theorem Kf:∀ g c,GR4 g=some c→zc Tryz.prog g c:=okIf zcz (okIf Qz (zp))
def zf7(p:List Nat×List Nat)(r:List Nat×List Nat):Prop:=r.1.length=p.1.length∧Ten.dig r.1∧Ten.val r.1=Ten.val p.1/Ten.val p.2∧r.2.length≤p.1.length∧Ten.dig r.2∧Ten.val r.2=Ten.val p.1%Ten.val p.2
def zan:Ctr:=ctrP false (fun p:List Nat×List Nat=>[nat6 p.1,nat6 p.2]) (fun p=>Ten.dig p.1∧Ten.dig p.2∧p.1.length<2^38∧p.2.length<2^38∧0<Ten.val p.2) zf7 (fun _ r=>(.tup [nat6 r.1,nat6 r.2],[]))
def SRd(l m:List Nat)(n:Nat):KV:=[(0,nat6 l),(1,nat6 m),(6,.int .i64 (n:Int)),(7,.undef),(8,.undef),(9,.undef),(15,.undef),(16,.undef),(17,.undef),(18,.undef),(19,.undef),(20,.undef)]
def qz(i:Nat)(qs:List Nat):List Nat:=List.replicate i 0++qs
def SRo(l m qs r:List Nat)(i:Nat):KV:=[(0,nat6 l),(1,nat6 m),(6,.int .i64 (m.length:Int)),(7,.osl 0 1 0 l.length),(8,nat6 r),(9,.int .i64 ((i:Int) - 1)),(15,.undef),(16,.undef),(17,.undef),(18,.undef),(19,.undef),(20,.undef)]
theorem zdh{k:IntKind}{x n:Nat}{r:List Nat}(hn:n≤1+r.length):eqG n 1 (zg (appG 1 (zh 1 [.int k (x:Int)]) (natG k r)) 0) (natG k ((x::r).take n)):=by
 intro j o hj ho
 have ho:o=0:=by omega
 subst ho
 simp only [zg,appG,zh,natG,Nat.zero_add]
 rw [uT hj]
 by_cases h:j<1
 ·have:j=0:=by omega
  subst this; simp
 ·obtain⟨i,rfl⟩:∃ i,j=i+1:=⟨j - 1,by omega⟩
  simp
def SRn(l m r:List Nat)(p:Nat):KV:=[(0,nat6 l),(1,nat6 m),(6,.int .i64 (m.length:Int)),(7,.osl 0 1 0 l.length),(8,nat6 r),(9,.int .i64 (p:Int)),(15,.undef),(16,.undef),(17,.undef),(18,.undef),(19,.undef),(20,.undef)]
theorem YL{O:Nat→Prop}{w0:World}{Hs:Nat→KV→Heap→Prop}{R:List AV→Heap→Prop}(l m qs r0:List Nat)(p V:Nat)(hm:Ten.dig m)(hll:l.length<2^38)(hml:m.length<2^38)(hm0:0<Ten.val m)(hp:p<l.length)
  (hql:qs.length+(p+1)=l.length) (hV:V<10*Ten.val m) (hrd:Ten.dig r0) (hrl:r0.length≤m.length+1) (hrv:Ten.val r0=V)
  (hback:∀ k r,k<10→Ten.dig r→r.length=r0.length→Ten.val r<Ten.val m→V=k*Ten.val m+Ten.val r→∀ kv h,LeK 0 Tryz.f140.ntmps kv h (SRo l m (k::qs) r p) [.arr l.length 1 (natG .i64 (qz p (k::qs)))]→Hs 0 kv h)
  (kv:KV) (h:Heap) (hle:LeK 0 Tryz.f140.ntmps kv h (SRn l m r0 p) [.arr l.length 1 (natG .i64 (qz p (0::qs)))]) :
  zb Tryz.prog Tryz.f140 O 0 w0 [] Hs R (.code (.loop (lps (inside (inside K140 0) 0) 0).1)::(lps (inside (inside K140 0) 0) 0).2) (mk Tryz.f140.ntmps kv h):=by
 refine zb.loop (ι:={z:Nat×List Nat // Ten.dig z.2∧z.2.length=r0.length∧V=z.1*Ten.val m+Ten.val z.2}) (fun z=>SRn l m z.1.2 p) (fun z=>[.arr l.length 1 (natG .i64 (qz p (z.1.1::qs)))]) (fun z=>Ten.val z.1.2) ⟨(0,r0),hrd,rfl,by simp [hrv]⟩ 1 hle ?_ (by kernel_rfl)
 rintro⟨⟨k,r⟩,hrd2,hrl2,hv⟩
 simp only at hrd2 hrl2 hv
 have hk:k<10:=by
  refine Nat.lt_of_not_le fun h=> ?_
  have:10*Ten.val m≤k*Ten.val m:=Nat.mul_le_mul_right _ h
  omega
 have hqp:(qz p (k::qs)).getD p 0=k:=by rw [qz,kY (by simp)]; simp
 have hset:(qz p (k::qs)).set p (k+1)=qz p ((k+1)::qs):=by
  simp [qz,List.set_append]
 have hqln:(qz p (k::qs)).length=l.length:=by simp [qz]; omega
 obtain⟨q,hq⟩:∃ q,qz p (k::qs)=q:=⟨_,rfl⟩
 simp only [hq] at hqp hset hqln ⊢
 refine zb.run hmix Kf [0,1,6,7,8,9,15,16,17,18,19,20] 400 (T:=.ex (fun(x:List Nat×List Nat)=>eqL [AV.sl r.length 1 (natG .i64 r),AV.sl m.length 1 (natG .i64 m)] [AV.sl x.1.length 1 (natG .i64 x.1),AV.sl x.2.length 1 (natG .i64 x.2)]∧Ten.dig x.1∧Ten.dig x.2∧x.1.length<4611686018427387904∧x.2.length<4611686018427387904) fun n=>.all (fun(r:Int)=>r=cmpN (Ten.val n.1) (Ten.val n.2)) fun n=>.ite (decide ((0:Int)≤n)) (.ex (fun(x:List Nat×List Nat)=>eqL [AV.sl r.length 1 (natG .i64 r),AV.sl m.length 1 (natG .i64 m)] [AV.sl x.1.length 1 (natG .i64 x.1),AV.sl x.2.length 1 (natG .i64 x.2)]∧Ten.dig x.1∧Ten.dig x.2∧x.1.length<1099511627776∧Ten.val x.2≤Ten.val x.1) fun n=>.all (fun(r:List Nat)=>r.length=n.1.length∧Ten.dig r∧Ten.val r+Ten.val n.2=Ten.val n.1) fun n=>.side ((0:Int)≤p∧(↑p:Int)<l.length) (.side (inR .i64 ((↑(q.getD (0+Int.toNat (↑p:Int)) 0):Int)+(1:Int))) (.side ((0:Int)≤p∧(↑p:Int)<l.length) (.leaf (.back 1 [(0,.sl l.length 1 (natG .i64 l)),(1,.sl m.length 1 (natG .i64 m)),(6,.int .i64 m.length),(7,.osl 0 1 0 l.length),(8,.sl n.length 1 (natG .i64 n)),(9,.int .i64 p),(15,.undef),(16,.undef),(17,.undef),(18,.undef),(19,.undef),(20,.undef)] [.arr l.length 1 (updG (natG .i64 q) (0+Int.toNat (↑p:Int)) 0 [.int .i64 ((↑(q.getD (0+Int.toNat (↑p:Int)) 0):Int)+(1:Int))])]))))) (.side (inR .i64 ((↑p:Int) - (1:Int))) (.leaf (.back 0 [(0,.sl l.length 1 (natG .i64 l)),(1,.sl m.length 1 (natG .i64 m)),(6,.int .i64 m.length),(7,.osl 0 1 0 l.length),(8,.sl r.length 1 (natG .i64 r)),(9,.int .i64 ((↑p:Int) - (1:Int))),(15,.undef),(16,.undef),(17,.undef),(18,.undef),(19,.undef),(20,.undef)] [.arr l.length 1 (natG .i64 q)])))) (by kernel_rfl) ?_
 simp only [Tree.holds,zd,inR,lo,hi,Int.toNat_natCast]
 refine⟨(r,m),⟨by simp [za],hrd2,hm,by simp only; omega,by simp only; omega⟩,⟨_,rfl⟩,?_⟩
 rintro _ rfl
 simp only [Nat.zero_add]
 refine⟨fun hge=> ?_,fun hlt=> ?_⟩
 ·have hge:Ten.val m≤Ten.val r:=UQ.1 (of_decide_eq_true hge)
  refine⟨(r,m),⟨by simp [za],hrd2,hm,by simp only; omega,hge⟩,ze0 hrd2 hge,?_⟩
  rintro r2 ⟨h1,h2,h3⟩
  simp only at h1 h3
  rw [hqp]
  refine⟨by omega,fun _=>⟨by omega,fun _=>⟨by omega,fun _=> ?_⟩⟩⟩
  rw [if_pos trivial]
  refine⟨⟨(k+1,r2),h2,h1.trans hrl2,?_⟩,by show Ten.val r2<Ten.val r; omega,by simp [SRn,natS,za],?_,by kernel_rfl,Nat.zero_le _⟩
  ·show V=(k+1)*Ten.val m+Ten.val r2
   rw [Nat.add_mul,Nat.one_mul]; omega
  ·simp only [← hset]
   have h1:=vD (k:=.i64) (l:=q) (v:=((k:Int)+1)) (i:=p) (by omega) (by omega)
   have e:((k:Int)+1).toNat=k+1:=by omega
   rw [e,hqln] at h1
   exact⟨⟨rfl,rfl,h1⟩,trivial⟩
 ·have hlt:Ten.val r<Ten.val m:=by
   have:=of_decide_eq_false hlt
   rw [UQ] at this
   omega
  refine⟨by omega,fun _=> ?_⟩
  rw [if_neg (by decide)]
  refine hback k r hk hrd2 hrl2 hlt hv _ _ ⟨by simp [SRo,natS,za],?_,by kernel_rfl,Nat.zero_le _⟩
  rw [hq]
  simp [za]
structure IRo(l m:List Nat) where
 qs:List Nat
 r:List Nat
 i:Nat
 hi:i≤l.length
 hql:qs.length+i=l.length
 hqd:Ten.dig qs
 hrd:Ten.dig r
 hrl:r.length≤m.length+1
 hrl2:r.length+i≤l.length
 hlt:Ten.val r<Ten.val m
 hv:Ten.val (l.drop i)=Ten.val qs*Ten.val m+Ten.val r
theorem Uc{O:Nat→Prop}{w0:World}{Q:AV×Heap→Prop}{Hs:Nat→KV→Heap→Prop}(l m:List Nat)(hl:Ten.dig l)(hm:Ten.dig m)(hll:l.length<2^38)(hml:m.length<2^38)(hm0:0<Ten.val m)(hmt:Ten.val m<10^m.length)
  (hq:∀ r,zf7 (l,m) r→Q (.tup [nat6 r.1,nat6 r.2],[])) (kv:KV) (h:Heap) (hle:LeK 0 Tryz.f140.ntmps kv h (SRo l m [] [] l.length) [.arr l.length 1 (natG .i64 (qz l.length []))]) :
  zb Tryz.prog Tryz.f140 O 0 w0 [] Hs (RetR zan 0 Q) (.code (.loop (lps (inside K140 0) 0).1)::(lps (inside K140 0) 0).2) (mk Tryz.f140.ntmps kv h):=by
 refine zb.loop (ι:=IRo l m) (fun z=>SRo l m z.qs z.r z.i) (fun z=>[.arr l.length 1 (natG .i64 (qz z.i z.qs))]) (fun z=>z.i) ⟨[],[],l.length,Nat.le_refl _,by simp,by simp [Ten.dig],by simp [Ten.dig],by simp,by simp,by simpa [Ten.val] using hm0,by simp [Ten.val]⟩ 0 hle ?_ (by kernel_rfl)
 rintro⟨qs,r,i,hil,hql,hqd,hrd,hrl,hrl2,hrv,hv⟩
 obtain⟨q,hqz⟩:∃ q,qz i qs=q:=⟨_,rfl⟩
 simp only [hqz]
 refine zb.run hmix Kf [0,1,6,7,8,9,15,16,17,18,19,20] 400 (T:=.ite (decide ((0:Int)≤i - (1:Int))) (.side ((0:Int)≤i - (1:Int)∧(↑i:Int) - (1:Int)<l.length) (.side (0=0∧1≤1∧(1+r.length)*8≤140737488355328) (.side (inR .i64 ((↑m.length:Int)+(1:Int))) (.ite (decide ((↑m.length:Int)+(1:Int)<(↑(1+r.length):Int))) (.side (inR .i64 ((↑m.length:Int)+(1:Int))) (.side ((0:Int)≤m.length+(1:Int)∧(↑m.length:Int)+(1:Int)≤(↑(1+r.length):Int)) (.leaf (.loop (Prod.fst (lps (inside (inside K140 0) 0) 0)) (Prod.snd (lps (inside (inside K140 0) 0) 0)) [(0,.sl l.length 1 (natG .i64 l)),(1,.sl m.length 1 (natG .i64 m)),(6,.int .i64 m.length),(7,.osl 0 1 0 l.length),(8,.osl 1 1 0 (Int.toNat ((↑m.length:Int)+(1:Int)) - 0)),(9,.int .i64 ((↑i:Int) - (1:Int))),(15,.undef),(16,.undef),(17,.undef),(18,.undef),(19,.undef),(20,.undef)] [.arr l.length 1 (natG .i64 q),.arr (1+r.length) 1 (appG 1 (zh 1 [.int .i64 (↑(l.getD (Int.toNat ((↑i:Int) - (1:Int))) 0):Int)]) (natG .i64 r))])))) (.leaf (.loop (Prod.fst (lps (inside (inside K140 0) 0) 0)) (Prod.snd (lps (inside (inside K140 0) 0) 0)) [(0,.sl l.length 1 (natG .i64 l)),(1,.sl m.length 1 (natG .i64 m)),(6,.int .i64 m.length),(7,.osl 0 1 0 l.length),(8,.osl 1 1 0 (1+r.length)),(9,.int .i64 ((↑i:Int) - (1:Int))),(15,.undef),(16,.undef),(17,.undef),(18,.undef),(19,.undef),(20,.undef)] [.arr l.length 1 (natG .i64 q),.arr (1+r.length) 1 (appG 1 (zh 1 [.int .i64 (↑(l.getD (Int.toNat ((↑i:Int) - (1:Int))) 0):Int)]) (natG .i64 r))])))))) (.leaf (.ret [.osl 0 1 0 l.length,.sl r.length 1 (natG .i64 r)] [.arr l.length 1 (natG .i64 q)]))) (by kernel_rfl) ?_
 simp only [Tree.holds,zd,inR,lo,hi,Int.toNat_natCast]
 refine⟨fun hge=> ?_,fun hlt=> ?_⟩
 ·obtain⟨p,rfl⟩:∃ p,i=p+1:=⟨i - 1,by have:=of_decide_eq_true hge; omega⟩
  have e:(((p+1:Nat):Int) - 1).toNat=p:=by omega
  have e2:((p+1:Nat):Int) - 1=(p:Int):=by omega
  have e3:((m.length:Int)+1).toNat - 0=m.length+1:=by omega
  have hx:l.getD p 0<10:=Ten.zM hl p
  have hdrop:l.drop p=l.getD p 0::l.drop (p+1):=by
   have h1:p<l.length:=by omega
   rw [List.drop_eq_getElem_cons h1]
   simp [List.getD,h1]
  simp only [e2,e3,Int.toNat_natCast]
  obtain⟨x,hxe⟩:∃ x,l.getD p 0=x:=⟨_,rfl⟩
  simp only [hxe] at hx hdrop ⊢
  have hVv:Ten.val (x::r)=x+10*Ten.val r:=rfl
  have hV:Ten.val (x::r)<10*Ten.val m:=by rw [hVv]; omega
  have hpow:10^(m.length+1)=10^m.length*10:=Nat.pow_succ ..
  have hcut:Ten.val ((x::r).take (m.length+1))=Ten.val (x::r):=zft (by rw [hpow]; omega)
  have hdig:Ten.dig ((x::r).take (m.length+1)):=Ten.qW (Ten.q7.2 ⟨hx,hrd⟩) _
  have main:∀ n,n=((x::r).take (m.length+1)).length→zb Tryz.prog Tryz.f140 O 0 w0 [] (fun d kv h=>if d=0 then ∃ x':IRo l m,x'.i<p+1∧LeK 0 Tryz.f140.ntmps kv h (SRo l m x'.qs x'.r x'.i) [.arr l.length 1 (natG .i64 (qz x'.i x'.qs))] else Hs d kv h) (RetR zan 0 Q)
    (.code (.loop (lps (inside (inside K140 0) 0) 0).1)::(lps (inside (inside K140 0) 0) 0).2)
    (mk Tryz.f140.ntmps [(0,nat6 l),(1,nat6 m),(6,.int .i64 (m.length:Int)),(7,.osl 0 1 0 l.length),(8,.osl 1 1 0 n),(9,.int .i64 (p:Int)),(15,.undef),(16,.undef),(17,.undef),(18,.undef),(19,.undef),(20,.undef)]
     [.arr l.length 1 (natG .i64 q),.arr (1+r.length) 1 (appG 1 (zh 1 [.int .i64 (x:Int)]) (natG .i64 r))]):=by
   intro n hn
   refine zb.freeze [1] (by simp) (by kernel_rfl) ?_
   refine YL l m qs ((x::r).take (m.length+1)) p (Ten.val (x::r)) hm hll hml hm0 (by omega) (by omega) hV hdig (by simp; omega) hcut ?_ _ _ ⟨?_,?_,by kernel_rfl,Nat.zero_le _⟩
   ·intro k r' hk hd' hl' hlt' hv' kv h hle'
    rw [if_pos rfl]
    rw [List.length_take,List.length_cons] at hl'
    refine⟨⟨k::qs,r',p,by omega,by simp; omega,Ten.q7.2 ⟨hk,hqd⟩,hd',by omega,by omega,hlt',?_⟩,Nat.lt_succ_self p,hle'⟩
    rw [hdrop]
    show x+10*Ten.val (l.drop (p+1))=(k+10*Ten.val qs)*Ten.val m+Ten.val r'
    rw [hv,Nat.add_mul,Nat.mul_assoc]
    rw [hVv] at hv'
    omega
   ·have:Xa [1] ([.arr l.length 1 (natG .i64 q),.arr (1+r.length) 1 (appG 1 (zh 1 [.int .i64 (x:Int)]) (natG .i64 r))]) [(0,nat6 l),(1,nat6 m),(6,.int .i64 (m.length:Int)),(7,.osl 0 1 0 l.length),(8,.osl 1 1 0 n),(9,.int .i64 (p:Int)),(15,.undef),(16,.undef),(17,.undef),(18,.undef),(19,.undef),(20,.undef)]=[(0,nat6 l),(1,nat6 m),(6,.int .i64 (m.length:Int)),(7,.osl 0 1 0 l.length),(8,.sl n 1 (zg (appG 1 (zh 1 [.int .i64 (x:Int)]) (natG .i64 r)) 0)),(9,.int .i64 (p:Int)),(15,.undef),(16,.undef),(17,.undef),(18,.undef),(19,.undef),(20,.undef)]:=rfl
    rw [this]
    have hg:=zdh (k:=.i64) (x:=x) (r:=r) (n:=n) (by rw [hn]; simp; omega)
    have h2:(x::r).take n=(x::r).take (m.length+1):=by rw [hn,List.length_take,← List.take_take,List.take_length]
    rw [h2] at hg
    subst hn
    refine⟨rfl,by simp [natS,za],rfl,by simp [natS,za],rfl,by simp,rfl,by simp,rfl,?_,rfl,by simp,by simp⟩
    exact⟨rfl,rfl,hg⟩
   ·have:wj [1] (z5 [1] [.arr l.length 1 (natG .i64 q),.arr (1+r.length) 1 (appG 1 (zh 1 [.int .i64 (x:Int)]) (natG .i64 r))])=[.arr l.length 1 (natG .i64 q),.dead]:=rfl
    rw [this]
    have hqq:q=qz p (0::qs):=by rw [← hqz]; simp [qz,List.replicate_succ']
    rw [← hqq]
    simp [za]
  refine⟨by omega,fun _=>⟨⟨trivial,Nat.le_refl _,by omega⟩,fun _=>⟨by omega,fun _=>⟨fun hbig=> ?_,fun hsm=> ?_⟩⟩⟩⟩
  ·have hbig:=of_decide_eq_true hbig
   refine⟨by omega,fun _=>⟨by omega,fun _=>main _ ?_⟩⟩
   rw [List.length_take,List.length_cons]; omega
  ·have hsm:=of_decide_eq_false hsm
   refine main _ ?_
   rw [List.length_take,List.length_cons]; omega
 ·have hi0:i=0:=by have:=of_decide_eq_false hlt; omega
  subst hi0
  rw [← hqz]
  have hqq:qz 0 qs=qs:=by simp [qz]
  rw [hqq]
  have hql2:l.length=qs.length:=by omega
  rw [List.drop_zero] at hv
  have hb:([.arr l.length 1 (natG .i64 qs)]:Heap)[0]?=some (.arr l.length 1 (natG .i64 qs)):=rfl
  have hd:Ten.val l/Ten.val m=Ten.val qs∧Ten.val l%Ten.val m=Ten.val r:=by
   rw [hv,Nat.mul_comm,Nat.mul_add_div hm0,Nat.mul_add_mod,Nat.div_eq_of_lt hrv,Nat.mod_eq_of_lt hrv]
   exact⟨by omega,rfl⟩
  refine RetR.out0 (hq (qs,r) ⟨by simp only; omega,hqd,by simp only [hd.1],by simp only; omega,hrd,by simp only [hd.2]⟩) (fun h=>by cases h) ?_
  simp only [resV,exp2,List.map_cons,List.map_nil,exp1]
  rw [xA hb (by omega),UO]
  simp [eqA2,eqL1,eqA,eqA0,natS,za,exp0,ren0,hql2]
theorem ziy:zc Tryz.prog 140 zan:=by
 refine zf (fn:=Tryz.f140) (c:=Tryz.f140.body.getD .skip) rfl rfl rfl fun p hp O w0 Q hq=> ?_
 obtain⟨l,m⟩:=p
 obtain⟨hl,hm,hll,hml,hm0⟩:=hp
 simp only at hq hl hm hll hml hm0
 refine zb.run hmix Kf [0,1,6,7,8,9,15,16,17,18,19,20] 400 (T:=.leaf (.loop (Prod.fst (lps K140 0)) (Prod.snd (lps K140 0)) [(0,.sl l.length 1 (natG .i64 l)),(1,.sl m.length 1 (natG .i64 m)),(6,.int .i64 m.length),(7,.undef),(8,.undef),(9,.undef),(15,.undef),(16,.undef),(17,.undef),(18,.undef),(19,.undef),(20,.undef)] [])) (by kernel_rfl) ?_
 simp only [Tree.holds,zd]
 refine zb.loop (ι:={n:Nat // n≤m.length∧Ten.tlen m≤n}) (fun n=>SRd l m n.1) (fun _=>[]) (fun n=>n.1) ⟨m.length,Nat.le_refl _,Ten.qi m⟩ 0 ?_ ?_ (by kernel_rfl)
 ·exact⟨by simp [SRd,natS,za],by simp,by kernel_rfl,Nat.zero_le _⟩
 ·rintro⟨n,hn,ht⟩
  refine zb.run hmix Kf [0,1,6,7,8,9,15,16,17,18,19,20] 400 (T:=.side (decide ((1:Int)<n)=true→inR .i64 ((↑n:Int) - (1:Int))) (.side (decide ((1:Int)<n)=true→(0:Int)≤n - (1:Int)∧(↑n:Int) - (1:Int)<m.length) (.ite (bif decide ((1:Int)<n) then decide ((↑(m.getD (Int.toNat ((↑n:Int) - (1:Int))) 0):Int)=0) else false) (.side (inR .i64 ((↑n:Int) - (1:Int))) (.leaf (.back 0 [(0,.sl l.length 1 (natG .i64 l)),(1,.sl m.length 1 (natG .i64 m)),(6,.int .i64 ((↑n:Int) - (1:Int))),(7,.undef),(8,.undef),(9,.undef),(15,.undef),(16,.undef),(17,.undef),(18,.undef),(19,.undef),(20,.undef)] []))) (.side ((0:Int)≤n∧(↑n:Int)≤m.length) (.side ((0:Int)≤l.length∧(↑l.length:Int)≤l.length∧inR .i64 (↑l.length:Int)∧Int.toNat (↑l.length:Int)*8≤140737488355328) (.side (inR .i64 ((↑l.length:Int) - (1:Int))) (.leaf (.loop (Prod.fst (lps (inside K140 0) 0)) (Prod.snd (lps (inside K140 0) 0)) [(0,.sl l.length 1 (natG .i64 l)),(1,.sl (Int.toNat (↑n:Int) - 0) 1 (zg (natG .i64 m) 0)),(6,.int .i64 n),(7,.osl 0 1 0 (Int.toNat (↑l.length:Int))),(8,.nils),(9,.int .i64 ((↑l.length:Int) - (1:Int))),(15,.undef),(16,.undef),(17,.undef),(18,.undef),(19,.undef),(20,.undef)] [.arr (Int.toNat (↑l.length:Int)) 1 (kL [.int .i64 0])])))))))) (by kernel_rfl) ?_
  simp only [Tree.holds,zd,inR,lo,hi,Int.toNat_natCast]
  refine⟨by omega,fun _=>⟨fun h=>by have:=of_decide_eq_true h; omega,fun _=>⟨fun hz=> ?_,fun hz=> ?_⟩⟩⟩
  ·have hn1:1<n:=by
    rcases Nat.lt_or_ge 1 n with h | h
    ·exact h
    ·rw [decide_eq_false (by omega)] at hz; cases hz
   have e:((n:Int) - 1).toNat=n - 1:=by omega
   have hz:m.getD (n - 1) 0=0:=by
    rw [decide_eq_true (by omega),e] at hz
    have:=of_decide_eq_true hz
    omega
   refine⟨by omega,fun _=> ?_⟩
   rw [if_pos trivial]
   refine⟨⟨n - 1,by omega,?_⟩,by show n - 1<n; omega,by simp [SRd,natS,za]; omega,by simp,by kernel_rfl,Nat.zero_le _⟩
   refine Nat.le_of_not_lt fun hlt=> ?_
   have hnt:n=Ten.tlen m:=by omega
   subst hnt
   exact Ten.qy m (by omega) hz
  ·refine⟨by omega,fun _=>⟨by omega,fun _=>⟨by omega,fun _=> ?_⟩⟩⟩
   have hlen:(m.take n).length=n:=by rw [List.length_take]; omega
   have hd:Ten.dig (m.take n):=Ten.qW hm n
   have hval:Ten.val (m.take n)=Ten.val m:=by
    refine QD hd hm fun j=> ?_
    rcases Nat.lt_or_ge j n with h | h
    ·exact uT h
    ·rw [wR (by omega),Ten.jc m j (by omega)]
   refine Uc l (m.take n) hl hd hll (by omega) (by omega) (Ten.qb hd) ?_ _ _ ⟨?_,?_,by kernel_rfl,Nat.zero_le _⟩
   ·intro r hr
    refine hq r ?_
    simp only [zf7,hval] at hr ⊢
    exact hr
   ·refine⟨rfl,by simp [natS,za],rfl,?_,by simp [hlen,natS]⟩
    refine⟨by rw [hlen]; rfl,rfl,?_⟩
    intro j o hj ho
    have ho:o=0:=by omega
    subst ho
    simp only [zg,natG,Nat.zero_add]
    rw [uT (by omega)]
   ·refine⟨⟨rfl,rfl,?_⟩,trivial⟩
    intro j o hj ho
    have ho:o=0:=by omega
    subst ho
    simp only [kL,natG,qz,List.append_nil]
    rw [JM hj]; rfl
noncomputable def K103:List Go.Sx.Item:=[.code (Tryz.f103.body.getD .skip)]
def big:Nat:=1000
theorem zb0{s:List UInt8}(h:errI s=0):numI s<10^big:=by
 obtain⟨_,h1,_,h2⟩:=uv h
 exact Nat.lt_of_lt_of_le (yi h1) (Nat.pow_le_pow_right (by decide) h2)
theorem zmr{x y:Nat}(hx:x<10^big)(hy:y<10^big):wr false (Nat.gcd x y)=(y8 false (Nat.gcd x y),0):=by
 have h:Nat.gcd x y<10^big:=by
  rcases Nat.eq_zero_or_pos x with h | h
  ·subst h; rw [Nat.gcd_zero_left]; exact hy
  ·exact Nat.lt_of_le_of_lt (Nat.le_of_dvd h (Nat.gcd_dvd_left x y)) hx
 have h2:=yE h
 have hb:big=1000:=rfl
 unfold wr y8
 split
 ·rfl
 ·rw [if_neg (by omega)]
theorem zap{s:List UInt8}(h:errI s=0):digR s=(dg (parse s).2,(parse s).1,true)∧Ten.dig (dg (parse s).2)∧(dg (parse s).2).length≤1000∧Ten.val (dg (parse s).2)=numI s:=by
 obtain⟨neg,b,h1,h2,h3,h4,h5,h6⟩:=Qt h
 refine⟨?_,?_,?_,VW _⟩
 ·simp only [digR,h2,h3,if_true]
 ·simp only [h2]; exact ze1 h4
 ·simp only [h2,xY]; exact h6
def zkr:Ctr:=ctrP true (fun p:List UInt8×List UInt8=>[.str p.1,.str p.2]) (fun p=>p.1.length<2^40∧p.2.length<2^40) (fun p r=>r=gcdR p.1 p.2) (fun _ r=>(.tup [.str r.1,.int .i64 r.2],[]))
def SRg(x y:List Nat):KV:=[(7,nat6 x),(10,nat6 y)]
noncomputable def GR5:Nat→Option Ctr:=fun f=>if f=138 then some (zl1) else if f=101 then some (yp) else if f=140 then some (zan) else if f=139 then some (zkt) else if f=141 then some (YJ) else none
theorem zfa:∀ g c,GR5 g=some c→zc Tryz.prog g c:=okIf zi4 (okIf ZK (okIf ziy (okIf zib (okIf zdp (zp)))))
theorem zjj:zc Tryz.prog 103 zkr:=by
 refine zf (fn:=Tryz.f103) (c:=Tryz.f103.body.getD .skip) rfl rfl rfl fun p hp O w0 Q hq=> ?_
 obtain⟨s,t⟩:=p
 obtain⟨hs,ht⟩:=hp
 replace hq:=hq _ rfl
 simp only at hs ht hq
 refine zb.run hmix zfa [7,10] 400 (T:=.ex (fun(x:List UInt8×List UInt8)=>eqL [AV.str s,AV.str t] [AV.str x.1,AV.str x.2]∧x.1.length<1099511627776∧x.2.length<1099511627776) fun n=>.all (fun(r:Int)=>r=zB n.1 n.2) fun n=>.ite (!decide (n=0)) (.leaf (.ret [.str #[].toList,.int .i64 n] [])) (.ex (fun(x:List UInt8)=>eqL [AV.str s] [AV.str x]∧x.length<1099511627776) fun n=>.all (fun(r:List Nat×Bool×Bool)=>r=digR n) fun n=>.ex (fun(x:List UInt8)=>eqL [AV.str t] [AV.str x]∧x.length<1099511627776) fun n_1=>.all (fun(r:List Nat×Bool×Bool)=>r=digR n_1) fun n_2=>.leaf (.loop (Prod.fst (lps K103 0)) (Prod.snd (lps K103 0)) [(7,.sl n.1.length 1 (natG .i64 n.1)),(10,.sl n_2.1.length 1 (natG .i64 n_2.1))] []))) (by kernel_rfl) ?_
 simp only [Tree.holds,zd]
 refine⟨(s,t),⟨by simp,hs,ht⟩,⟨_,rfl⟩,?_⟩
 rintro _ rfl
 simp only
 refine⟨fun he=> ?_,fun he=> ?_⟩
 ·have he:zB s t≠0:=by
   intro h; simp [h] at he
  have e:gcdR s t=([],zB s t):=by simp [gcdR,he]
  rw [e] at hq
  exact RetR.scal hq rfl (by simp [resV])
 ·have he:zB s t=0:=by
   refine Decidable.byContradiction fun h=> ?_
   simp [h] at he
  obtain⟨h1,h2⟩:=zK.1 he
  have e:gcdR s t=(y8 false (Nat.gcd (numI s) (numI t)),0):=by
   rw [gcdR,if_pos he]; exact zmr (zb0 h1) (zb0 h2)
  rw [e] at hq
  refine⟨s,⟨by simp,hs⟩,⟨_,rfl⟩,?_⟩
  rintro _ rfl
  refine⟨t,⟨by simp,ht⟩,⟨_,rfl⟩,?_⟩
  rintro _ rfl
  obtain⟨a1,a2,a3,a4⟩:=zap h1
  obtain⟨b1,b2,b3,b4⟩:=zap h2
  rw [a1,b1]
  simp only
  rw [← a4,← b4] at hq
  generalize dg (parse s).2=x0 at *
  generalize dg (parse t).2=y0 at *
  clear a1 b1 e he h1 h2 hs ht a4 b4
  refine zb.loop (ι:={z:List Nat×List Nat // Nat.gcd (Ten.val z.1) (Ten.val z.2)=Nat.gcd (Ten.val x0) (Ten.val y0)∧Ten.dig z.1∧Ten.dig z.2∧z.1.length≤1000∧z.2.length≤1000}) (fun z=>SRg z.1.1 z.1.2) (fun _=>[]) (fun z=>Ten.val z.1.2) ⟨(x0,y0),rfl,a2,b2,a3,b3⟩ 0 ?_ ?_ (by kernel_rfl)
  ·exact⟨by simp [SRg,natS,za],by simp,by kernel_rfl,Nat.zero_le _⟩
  ·rintro⟨⟨x,y⟩,hg,hx,hy,hxl,hyl⟩
   simp only at hg hx hy hxl hyl
   refine zb.run hmix zfa [7,10] 400 (T:=.ex (fun(x:List Nat)=>eqL [AV.sl y.length 1 (natG .i64 y)] [AV.sl x.length 1 (natG .i64 x)]∧Ten.dig x∧x.length<4611686018427387904) fun n=>.all (fun(r:Bool)=>r=decide (Ten.val n=0)) fun n=>.ite (!n) (.ex (fun(x_1:List Nat×List Nat)=>eqL [AV.sl x.length 1 (natG .i64 x),AV.sl y.length 1 (natG .i64 y)] [AV.sl x_1.1.length 1 (natG .i64 x_1.1),AV.sl x_1.2.length 1 (natG .i64 x_1.2)]∧Ten.dig x_1.1∧Ten.dig x_1.2∧x_1.1.length<274877906944∧x_1.2.length<274877906944∧0<Ten.val x_1.2) fun n=>.all (fun(r:List Nat×List Nat)=>r.1.length=n.1.length∧Ten.dig r.1∧Ten.val r.1=Ten.val n.1/Ten.val n.2∧r.2.length≤n.1.length∧Ten.dig r.2∧Ten.val r.2=Ten.val n.1%Ten.val n.2) fun n=>.leaf (.back 0 [(7,.sl y.length 1 (natG .i64 y)),(10,.sl n.2.length 1 (natG .i64 n.2))] [])) (.ex (fun(x_1:List Nat×Bool)=>eqL [AV.sl x.length 1 (natG .i64 x),AV.bool false] [AV.sl x_1.1.length 1 (natG .i64 x_1.1),AV.bool x_1.2]∧Ten.dig x_1.1∧x_1.1.length<1099511627776) fun n=>.all (fun(r:List UInt8)=>r=y8 n.2 (Ten.val n.1)) fun n=>.leaf (.ret [.str n,.int .i64 0] []))) (by kernel_rfl) ?_
   simp only [Tree.holds,zd,inR,lo,hi]
   refine⟨y,⟨by simp [za],hy,by omega⟩,⟨_,rfl⟩,?_⟩
   rintro _ rfl
   refine⟨fun h0=> ?_,fun h0=> ?_⟩
   ·have hy0:0<Ten.val y:=by
     rcases Nat.eq_zero_or_pos (Ten.val y) with h | h
     ·rw [h] at h0; simp at h0
     ·exact h
    refine⟨(x,y),⟨by simp [za],hx,hy,by simp only; omega,by simp only; omega,hy0⟩,?_,?_⟩
    ·obtain⟨g1,g2,g3⟩:=zb3 hx (Nat.div_le_self (Ten.val x) (Ten.val y))
     obtain⟨g4,g5,g6⟩:=zb3 hx (Nat.mod_le (Ten.val x) (Ten.val y))
     exact⟨(_,_),g1,g2,g3,Nat.le_of_eq g4,g5,g6⟩
    rintro⟨q,r⟩ ⟨g1,g2,g3,g4,g5,g6⟩
    simp only at g1 g2 g3 g4 g5 g6
    simp only
    rw [if_pos trivial]
    refine⟨⟨(y,r),?_,hy,g5,hyl,Nat.le_trans g4 hxl⟩,?_,by simp [SRg,natS,za],by simp,by kernel_rfl,Nat.zero_le _⟩
    ·show Nat.gcd (Ten.val y) (Ten.val r)=_
     rw [g6,← hg,Nat.gcd_comm (Ten.val x),Nat.gcd_rec (Ten.val y) (Ten.val x),Nat.gcd_comm]
    ·show Ten.val r<Ten.val y
     rw [g6]; exact Nat.mod_lt _ hy0
   ·have hy0:Ten.val y=0:=by
     refine Decidable.byContradiction fun h=> ?_
     rw [decide_eq_false h] at h0; simp at h0
    refine⟨(x,false),⟨by simp [za],hx,by simp only; omega⟩,⟨_,rfl⟩,?_⟩
    rintro _ rfl
    rw [hy0,Nat.gcd_zero_right] at hg
    rw [← hg] at hq
    exact RetR.scal hq rfl (by simp [resV])
end Go.Proofs.Tryz
end
section
namespace Go.Proofs
set_option maxHeartbeats 1000000 in
set_option maxRecDepth 100000 in
theorem Tryz.XU(s:ByteArray)(c:Int)(w:World) :
  Calls Tryz.prog 166 #[.string s,.int .u8 c] w fun e w'=>e = .returned (.int .i64 (Lib.indexByte s.data.toList c.toNat.toUInt8))∧w'=w:=by
 go_enter Tryz.func166,Tryz.ntmps166
 go_wp2
 rw [run_callFunc_extern Tryz.func170 (by kernel_rfl) (by kernel_rfl) (by kernel_rfl) (e:=Extern.BytealgIndexByte.indexByte) (by kernel_rfl),Lib.run_indexByteString]
 simp only [Result.andThen]
 rw [Oper.upon_value]
 go_wp2
 go_ret
 exact⟨rfl,rfl⟩
set_option maxHeartbeats 2000000 in
set_option maxRecDepth 100000 in
theorem Tryz.YH(s:ByteArray)(c:UInt8)(w:World) :
  Calls Tryz.prog 160 #[.string s,.string ⟨#[c]⟩] w fun e w'=>e = .returned (.int .i64 (Lib.indexByte s.data.toList c))∧w'=w:=by
 go_enter Tryz.func160,Tryz.ntmps160
 go_wp2_with (go_at_call 166; refine(Tryz.XU _ _ _).mono ?_; rintro e w' ⟨rfl,rfl⟩)
 ·have h:([c] == s.toList)=true:=by assumption
  go_ret
  refine⟨?_,rfl⟩
  have e:s.data.toList=[c]:=by rw [← Lib.toList_data]; exact(beq_iff_eq.1 h).symm
  rw [e]
  simp [Lib.indexByte]
 ·go_ret
  exact⟨rfl,rfl⟩
end Go.Proofs
end
section
set_option maxRecDepth 100000
open Go Go.Sx Go.Proofs Go.Nov
namespace Go.Proofs.Tryz
attribute [local simp] eqKV eqA eqA0 eqH eqB eqL eqL0
noncomputable def K102:List Go.Sx.Item:=[.code (Tryz.f102.body.getD .skip)]
theorem Qj(s:List UInt8):Lib.indexByte s 47=if zC s<s.length then(zC s:Int) else -1:=by
 induction s with
 | nil=>rfl
 | cons c s ih=>
  simp only [Lib.indexByte,zC,List.findIdx_cons]
  cases h:(c == 47) with
  | true=>simp
  | false=>
   simp only [Bool.false_eq_true,if_false,ih,cond_false,List.length_cons]
   show _=if zC s+1<s.length+1 then((zC s+1:Nat):Int) else -1
   by_cases h2:zC s<s.length
   ·rw [if_pos h2,if_neg (by simp),if_pos (by omega)]; omega
   ·rw [if_neg h2,if_pos (by rfl),if_neg (by omega)]
def UA:Ctr:=ctrP true (fun s:List UInt8=>[.str s,.str [47]]) (fun s=>True) (fun s r=>r=if zC s<s.length then(zC s:Int) else -1) (fun _ (r:Int)=>(.int .i64 r,[]))
theorem zel:zc Tryz.prog 160 UA:=by
 intro args hc Q hq _
 simp only [UA,ctrP] at hq
 split at hq
 ·obtain⟨s,⟨h1,_⟩,_,h3⟩:=hq
  have hq:=h3 _ rfl
  simp only [Tree.holds] at hq
  refine jy.le h1 ?_
  intro O w σ vals hg hh hr
  simp only [RepL,Rep] at hr
  obtain⟨v1,r1,rfl,rfl,v2,r2,rfl,rfl,rfl⟩:=hr
  refine .inl ⟨enters_of Tryz.func160 (by kernel_rfl) rfl ..,?_⟩
  refine(Tryz.YH ⟨s.toArray⟩ 47 w).mono ?_
  rintro e w' ⟨rfl,rfl⟩
  have hx:=Qj s
  have h0:σ=[]:=List.length_eq_zero_iff.1 hh.len
  subst h0
  refine⟨_,rfl,_,[],[],hq,?_,⟨rfl,fun i j e f a b h=>by simp at h,fun i e a h=>by simp at h,fun i e b h=>by simp at h⟩,hg,Nat.le_refl _,Hold.refl _ _ _,Ext.refl _ _⟩
  simp only [Rep]
  rw [← hx]
 ·exact hq.elim
def cutC:Ctr:=ctrP true (fun s:List UInt8=>[.str s,.str [47]]) (fun s=>s.length<2^62) (fun s r=>r=cutR s) (fun _ r=>(.tup [.str r.1,.str r.2.1,.bool r.2.2],[]))
noncomputable def GC1:Nat→Option Ctr:=fun f=>if f=160 then some (UA) else none
theorem zm5:∀ g c,GC1 g=some c→zc Tryz.prog g c:=okIf zel (zp)
theorem zk0:zc Tryz.prog 149 cutC:=by
 refine zf (fn:=Tryz.f149) (c:=Tryz.f149.body.getD .skip) rfl rfl rfl fun s hs O w0 Q hq=> ?_
 replace hq:=hq _ rfl
 refine zb.run hmix zm5 [] 400 (T:=.ex (fun(x:List UInt8)=>eqL [AV.str s,AV.str [(47:UInt8)]] [AV.str x,AV.str [(47:UInt8)]]∧True) fun n=>.all (fun(r:Int)=>r=if zC n<n.length then(↑(zC n):Int) else(-1:Int)) fun n=>.ite (decide ((0:Int)≤n)) (.side ((0:Int)≤n∧n≤(↑s.length:Int)) (.side (inR .i64 (n+(1:Int))) (.side ((0:Int)≤n+(1:Int)∧n+(1:Int)≤s.length) (.leaf (.ret [.str (List.drop 0 (List.take (Int.toNat n) s)),.str (List.drop (Int.toNat (n+(1:Int))) (List.take s.length s)),.bool true] []))))) (.leaf (.ret [.str s,.str #[].toList,.bool false] []))) (by kernel_rfl) ?_
 simp only [Tree.holds,zd,inR,lo,hi]
 refine⟨s,⟨by simp,trivial⟩,⟨_,rfl⟩,?_⟩
 rintro _ rfl
 by_cases h:zC s<s.length
 ·simp only [if_pos h]
  rw [Vy h] at hq
  refine⟨fun _=>⟨by omega,fun _=>⟨by omega,fun _=>⟨by omega,fun _=> ?_⟩⟩⟩,fun hn=> ?_⟩
  ·refine RetR.scal hq rfl ?_
   simp [resV]
  ·have:=of_decide_eq_false hn; omega
 ·simp only [if_neg h]
  rw [Yx h] at hq
  refine⟨fun hn=> ?_,fun _=>RetR.scal hq rfl (by simp [resV])⟩
  have:=of_decide_eq_true hn; omega
noncomputable def GC2:Nat→Option Ctr:=fun f=>if f=149 then some (cutC) else none
theorem zmu:∀ g c,GC2 g=some c→zc Tryz.prog g c:=okIf zk0 (zp)
theorem zlc:zc Tryz.prog 136 cutC:=by
 refine zf (fn:=Tryz.f136) (c:=Tryz.f136.body.getD .skip) rfl rfl rfl fun s hs O w0 Q hq=> ?_
 replace hq:=hq _ rfl
 refine zb.run hmix zmu [] 400 (T:=.ex (fun(x:List UInt8)=>eqL [AV.str s,AV.str [(47:UInt8)]] [AV.str x,AV.str [(47:UInt8)]]∧x.length<4611686018427387904) fun n=>.all (fun(r:List UInt8×List UInt8×Bool)=>r=cutR n) fun n=>.leaf (.ret [.str n.1,.str n.2.1,.bool n.2.2] [])) (by kernel_rfl) ?_
 simp only [Tree.holds,zd,inR,lo,hi]
 refine⟨s,⟨by simp,hs⟩,⟨_,rfl⟩,?_⟩
 rintro _ rfl
 exact RetR.scal hq rfl (by simp [resV])
def YK:Ctr:=ctrP true (fun s:List UInt8=>[.str s]) (fun s=>s.length<2^62) (fun s r=>r=cutR s) (fun _ r=>(.tup [.str r.1,.str r.2.1,.bool r.2.2],[]))
noncomputable def GC3:Nat→Option Ctr:=fun f=>if f=136 then some (cutC) else if f=98 then some (QZ) else none
theorem zdk:∀ g c,GC3 g=some c→zc Tryz.prog g c:=okIf zlc (okIf JH (zp))
theorem KM:zc Tryz.prog 96 YK:=by
 refine zf (fn:=Tryz.f96) (c:=Tryz.f96.body.getD .skip) rfl rfl rfl fun s hs O w0 Q hq=> ?_
 replace hq:=hq _ rfl
 refine zb.run hmix zdk [] 400 (T:=.ex (fun(x:List UInt8)=>eqL [AV.str s,AV.str #[(47:UInt8)].toList] [AV.str x,AV.str [(47:UInt8)]]∧x.length<4611686018427387904) fun n=>.all (fun(r:List UInt8×List UInt8×Bool)=>r=cutR n) fun n=>.leaf (.ret [.str n.1,.str n.2.1,.bool n.2.2] [])) (by kernel_rfl) ?_
 simp only [Tree.holds,zd,inR,lo,hi]
 refine⟨s,⟨by simp,hs⟩,⟨_,rfl⟩,?_⟩
 rintro _ rfl
 exact RetR.scal hq rfl (by simp [resV])
def zl7:Ctr:=ctrP true (fun s:List UInt8=>[.str s]) (fun s=>s.length<2^62) (fun s r=>r=if errI s=12 then 12 else 0) (fun _ (r:Int)=>(.int .i64 r,[]))
theorem zjw:zc Tryz.prog 97 zl7:=by
 refine zf (fn:=Tryz.f97) (c:=Tryz.f97.body.getD .skip) rfl rfl rfl fun s hs O w0 Q hq=> ?_
 replace hq:=hq _ rfl
 refine zb.run hmix zdk [] 400 (T:=.ex (fun(x:List UInt8)=>eqL [AV.str s] [AV.str x]∧x.length<4611686018427387904) fun n=>.all (fun(r:Int)=>r=errI n) fun n=>.ite (!decide (n=14)) (.leaf (.ret [.int .i64 n] [])) (.leaf (.ret [.int .i64 0] []))) (by kernel_rfl) ?_
 simp only [Tree.holds,zd,inR,lo,hi]
 refine⟨s,⟨by simp,hs⟩,⟨_,rfl⟩,?_⟩
 rintro _ rfl
 rcases wC s with h | h | h<;>simp only [h] at hq ⊢
 all_goals
  refine⟨fun h=> ?_,fun h=> ?_⟩
  all_goals first
   | (exfalso; revert h; decide)
   | exact RetR.scal hq rfl (by simp [resV])
def Qo:Ctr:=ctrP true (fun s:List UInt8=>[.str s]) (fun s=>s.length<2^62) (fun s r=>r=errR s) (fun _ (r:Int)=>(.int .i64 r,[]))
noncomputable def GC4:Nat→Option Ctr:=fun f=>if f=96 then some (YK) else if f=97 then some (zl7) else if f=98 then some (QZ) else if f=99 then some (gcdC) else none
theorem zm3:∀ g c,GC4 g=some c→zc Tryz.prog g c:=okIf KM (okIf zjw (okIf JH (okIf zfm (zp))))
theorem Z7:zc Tryz.prog 50 Qo:=by
 refine zf (fn:=Tryz.f50) (c:=Tryz.f50.body.getD .skip) rfl rfl rfl fun s hs O w0 Q hq=> ?_
 replace hq:=hq _ rfl
 refine zb.run hmix zm3 [] 400 (T:=.ex (fun(x:List UInt8)=>eqL [AV.str s] [AV.str x]∧x.length<4611686018427387904) fun n=>.all (fun(r:List UInt8×List UInt8×Bool)=>r=cutR n) fun n=>.ex (fun(x:List UInt8)=>eqL [AV.str n.1] [AV.str x]∧x.length<4611686018427387904) fun n_1=>.all (fun(r:Int)=>r=if errI n_1=12 then(12:Int) else(0:Int)) fun n_2=>.ex (fun(x:List UInt8)=>(!decide (n_2=0))=false∧n.2.2=true→eqL [AV.str n.2.1] [AV.str x]∧x.length<4611686018427387904) fun n_3=>.all (fun(x:Int)=>(!decide (n_2=0))=false∧n.2.2=true→x=if errI n_3=12 then(12:Int) else(0:Int)) fun n_4=>.side (((!decide (n_2=0))=false∧n.2.2=true)∧(!decide (n_4=0))=false→(0:Int)≤0∧(0:Int)<n.2.1.length) (.ite (bif !decide (n_2=0) then true else bif n.2.2 then bif bif bif !decide (n_4=0) then true else decide ((↑(UInt8.toNat (List.getD n.2.1 0 (0:UInt8))):Int)=45) then true else decide (n.2.1=#[(48:UInt8)].toList) then true else decide (n.2.1=#[(49:UInt8)].toList) else false) (.leaf (.ret [.int .i64 12] [])) (.ex (fun(x:List UInt8)=>eqL [AV.str n.1] [AV.str x]∧x.length<4611686018427387904) fun n_5=>.all (fun(r:Int)=>r=errI n_5) fun n_6=>.ex (fun(x:List UInt8)=>(!decide (n_6=0))=false∧n.2.2=true→eqL [AV.str n.2.1] [AV.str x]∧x.length<4611686018427387904) fun n_7=>.all (fun(x:Int)=>(!decide (n_6=0))=false∧n.2.2=true→x=errI n_7) fun n_8=>.ite (bif !decide (n_6=0) then true else bif n.2.2 then !decide (n_8=0) else false) (.leaf (.ret [.int .i64 14] [])) (.ite n.2.2 (.ex (fun(x:List UInt8×List UInt8)=>eqL [AV.str n.1,AV.str n.2.1] [AV.str x.1,AV.str x.2]∧x.1.length<4611686018427387904∧x.2.length<4611686018427387904) fun n=>.all (fun(r:List UInt8×Int)=>r=gcdR n.1 n.2) fun n=>.ite (!decide (n.1=#[(49:UInt8)].toList)) (.leaf (.ret [.int .i64 12] [])) (.leaf (.ret [.int .i64 0] []))) (.leaf (.ret [.int .i64 0] [])))))) (by kernel_rfl) ?_
 simp only [Tree.holds,zd,inR,lo,hi]
 refine⟨s,⟨by simp,hs⟩,⟨_,rfl⟩,?_⟩
 rintro _ rfl
 have hlen:=Qv s
 have hno:(cutR s).2.2=false→(cutR s).1=s:=by
  intro h
  unfold cutR at h ⊢
  split at h
  ·cases h
  ·rename_i hn; rw [if_neg hn]
 simp only [errR] at hq
 generalize cutR s=c at hq hlen hno ⊢
 obtain⟨n,d,f⟩:=c
 simp only at hq hlen hno ⊢
 refine⟨n,⟨by simp,by omega⟩,⟨_,rfl⟩,?_⟩
 rintro _ rfl
 refine⟨d,fun _=>⟨by simp,by omega⟩,⟨_,fun _=>rfl⟩,?_⟩
 intro fd hfd
 cases f with
 | false=>
  have hn:=hno rfl
  subst hn
  rw [if_neg (by decide)] at hq
  refine⟨fun h=>by simp at h,fun _=>⟨fun h=> ?_,fun h=> ?_⟩⟩
  ·rcases wC n with e | e | e<;>rw [e] at hq h
   ·simp at h
   ·exact RetR.scal hq rfl (by simp [resV])
   ·simp at h
  ·have hn12:errI n≠12:=by
    intro e; rw [e] at h; simp at h
   refine⟨n,⟨by simp,by omega⟩,⟨_,rfl⟩,?_⟩
   rintro _ rfl
   refine⟨d,fun _=>⟨by simp,by omega⟩,⟨_,fun _=>rfl⟩,?_⟩
   intro fd2 _
   refine⟨fun h=> ?_,fun h=>⟨fun h=>(by cases h),fun _=> ?_⟩⟩
   ·rcases wC n with e | e | e
    ·rw [e] at h; simp at h
    ·exact absurd e hn12
    ·rw [e] at hq; exact RetR.scal hq rfl (by simp [resV])
   ·rcases wC n with e | e | e
    ·rw [e] at hq; exact RetR.scal hq rfl (by simp [resV])
    ·exact absurd e hn12
    ·rw [e] at h; simp at h
 | true=>
  rw [if_pos rfl] at hq
  by_cases hn:errI n=12
  ·rw [if_pos (.inl hn)] at hq
   simp only [hn]
   refine⟨fun h=>by simp at h,fun _=>⟨fun _=>RetR.scal hq rfl (by simp [resV]),fun h=>by simp at h⟩⟩
  ·rw [if_neg hn] at hfd ⊢
   have hfd:=hfd ⟨by simp,rfl⟩
   subst hfd
   by_cases hd:errI d=12
   ·rw [if_pos (.inr (.inl hd))] at hq
    rw [if_pos hd]
    refine⟨fun h=>by simp at h,fun _=>⟨fun _=>RetR.scal hq rfl (by simp [resV]),fun h=>by simp at h⟩⟩
   ·rw [if_neg hd]
    have hd0:d≠[]:=by rintro rfl; exact hd XX
    have hneg:=W7 hd0
    have hneg2:decide (((d.getD 0 0).toNat:Int)=45)=negI d:=by
     rw [hneg]
     by_cases h:d.getD 0 0=45
     ·rw [h]; rfl
     ·rw [decide_eq_false h]
      refine decide_eq_false fun h2=>h (ZY ?_)
      rw [h2]; rfl
    rw [hneg2]
    refine⟨fun _=>by have:=List.length_pos_iff.2 hd0; omega,fun _=>⟨fun h=> ?_,fun h=> ?_⟩⟩
    ·have:negI d=true∨d=[48]∨d=[49]:=by
      revert h
      cases negI d<;>simp
     rw [if_pos (.inr (.inr this))] at hq
     exact RetR.scal hq rfl (by simp [resV])
    ·have:¬ (errI n=12∨errI d=12∨negI d=true∨d=[48]∨d=[49]):=by
      revert h
      cases negI d<;>simp [hn,hd]
     rw [if_neg this] at hq
     refine⟨n,⟨by simp,by omega⟩,⟨_,rfl⟩,?_⟩
     rintro _ rfl
     refine⟨d,fun _=>⟨by simp,by omega⟩,⟨_,fun _=>rfl⟩,?_⟩
     intro ed hed
     by_cases hn0:errI n=0
     ·have hed:=hed ⟨by simp [hn0],rfl⟩
      subst hed
      by_cases hd0:errI d=0
      ·rw [if_neg (by simp [hn0,hd0])] at hq
       refine⟨fun h=>by simp [hn0,hd0] at h,fun _=>⟨fun _=> ?_,fun h=>by cases h⟩⟩
       refine⟨(n,d),⟨by simp,by simp only; omega,by simp only; omega⟩,⟨_,rfl⟩,?_⟩
       rintro _ rfl
       refine⟨fun h=> ?_,fun h=> ?_⟩
       ·rw [if_pos (by simpa using h)] at hq
        exact RetR.scal hq rfl (by simp [resV])
       ·rw [if_neg (by simpa using h)] at hq
        exact RetR.scal hq rfl (by simp [resV])
      ·rw [if_pos (.inr hd0)] at hq
       refine⟨fun _=>RetR.scal hq rfl (by simp [resV]),fun h=>by simp [hn0,hd0] at h⟩
     ·rw [if_pos (.inl hn0)] at hq
      refine⟨fun _=>RetR.scal hq rfl (by simp [resV]),fun h=>by simp [hn0] at h⟩
def Yv:Ctr:=ctrP true (fun s:List UInt8=>[.str s]) (fun s=>s.length<2^62) (fun s r=>r=if zC s<s.length then(zC s:Int) else -1) (fun _ (r:Int)=>(.int .i64 r,[]))
def SSl(s:List UInt8)(i:Nat):KV:=[(0,.str s),(3,.int .i64 (i:Int))]
theorem Ye:zc Tryz.prog 102 Yv:=by
 refine zf (fn:=Tryz.f102) (c:=Tryz.f102.body.getD .skip) rfl rfl rfl fun s hs O w0 Q hq=> ?_
 replace hq:=hq _ rfl
 refine zb.run hmix zF [0,3] 400 (T:=.leaf (.loop (Prod.fst (lps K102 0)) (Prod.snd (lps K102 0)) [(0,.str s),(3,.int .i64 0)] [])) (by kernel_rfl) ?_
 simp only [Tree.holds,zd,inR,lo,hi]
 refine zb.loop (ι:={i:Nat // i≤s.length∧∀ j,j<i→s.getD j 0≠47}) (fun i=>SSl s i.1) (fun _=>[]) (fun i=>s.length - i.1) ⟨0,Nat.zero_le _,fun j hj=>by omega⟩ 0 ?_ ?_ (by kernel_rfl)
 ·exact⟨by simp [SSl],by simp,by kernel_rfl,Nat.zero_le _⟩
 ·rintro⟨i,hil,hib⟩
  refine zb.run hmix zF [0,3] 400 (T:=.ite (decide ((↑i:Int)<s.length)) (.side ((0:Int)≤i∧(↑i:Int)<s.length) (.ite (decide ((↑(UInt8.toNat (s.getD (↑i:Int).toNat (0:UInt8))):Int)=47)) (.leaf (.ret [.int .i64 i] [])) (.side (inR .i64 ((↑i:Int)+(1:Int))) (.leaf (.back 0 [(0,.str s),(3,.int .i64 ((↑i:Int)+(1:Int)))] []))))) (.leaf (.ret [.int .i64 (-1:Int)] []))) (by kernel_rfl) ?_
  simp only [Tree.holds,zd,inR,lo,hi,Int.toNat_natCast]
  refine⟨fun hlt=> ?_,fun hge=> ?_⟩
  ·have hlt:i<s.length:=by have:=of_decide_eq_true hlt; omega
   refine⟨by omega,fun _=>⟨fun h=> ?_,fun h=>⟨by omega,fun _=> ?_⟩⟩⟩
   ·have h:s.getD i 0=47:=ZY (of_decide_eq_true h)
    have e:=zdy hlt h hib
    rw [if_pos (by omega),e] at hq
    exact RetR.scal hq rfl (by simp [resV])
   ·have h:s.getD i 0≠47:=by
     intro h2
     exact of_decide_eq_false h (by rw [h2]; rfl)
    rw [if_pos trivial]
    refine⟨⟨i+1,hlt,fun j hj=> ?_⟩,by show s.length - (i+1)<s.length - i; omega,by simp [SSl],by simp,by kernel_rfl,Nat.zero_le _⟩
    rcases Nat.lt_or_ge j i with h1 | h1
    ·exact hib j h1
    ·have:j=i:=by omega
     rw [this]; exact h
  ·have hge:i=s.length:=by have:=of_decide_eq_false hge; omega
   subst hge
   have e:=Uh hib
   rw [if_neg (by omega)] at hq
   exact RetR.scal hq rfl (by simp [resV])
def XO:Ctr:=ctrP true (fun s:List UInt8=>[.str s]) (fun s=>s.length<2^62) (fun s r=>r=((cutR s).1,if(cutR s).2.2 then(cutR s).2.1 else [49])) (fun _ r=>(.tup [.str r.1,.str r.2],[]))
noncomputable def GQ1:Nat→Option Ctr:=fun f=>if f=102 then some (Yv) else none
theorem zle:∀ g c,GQ1 g=some c→zc Tryz.prog g c:=okIf Ye (zp)
theorem U3:zc Tryz.prog 100 XO:=by
 refine zf (fn:=Tryz.f100) (c:=Tryz.f100.body.getD .skip) rfl rfl rfl fun s hs O w0 Q hq=> ?_
 replace hq:=hq _ rfl
 refine zb.run hmix zle [] 400 (T:=.ex (fun(x:List UInt8)=>eqL [AV.str s] [AV.str x]∧x.length<4611686018427387904) fun n=>.all (fun(r:Int)=>r=if zC n<n.length then(↑(zC n):Int) else(-1:Int)) fun n=>.ite (decide (n<0)) (.leaf (.ret [.str s,.str #[(49:UInt8)].toList] [])) (.side ((0:Int)≤n∧n≤(↑s.length:Int)) (.side (inR .i64 (n+(1:Int))) (.side ((0:Int)≤n+(1:Int)∧n+(1:Int)≤s.length) (.leaf (.ret [.str (List.drop 0 (List.take (Int.toNat n) s)),.str (List.drop (Int.toNat (n+(1:Int))) (List.take s.length s))] [])))))) (by kernel_rfl) ?_
 simp only [Tree.holds,zd,inR,lo,hi]
 refine⟨s,⟨by simp,hs⟩,⟨_,rfl⟩,?_⟩
 rintro _ rfl
 by_cases h:zC s<s.length
 ·simp only [if_pos h]
  rw [Vy h] at hq
  refine⟨fun hn=> ?_,fun hn=> ?_⟩
  ·have:=of_decide_eq_true hn; omega
  ·refine⟨by omega,fun _=>⟨by omega,fun _=>⟨by omega,fun _=> ?_⟩⟩⟩
   exact RetR.scal hq rfl (by simp [resV])
 ·simp only [if_neg h]
  rw [Yx h] at hq
  refine⟨fun hn=>RetR.scal hq rfl (by simp [resV]),fun hn=> ?_⟩
  have:=of_decide_eq_false hn; omega
def JT:Ctr:=ctrP true (fun s:List UInt8=>[.str s]) (fun s=>s.length<2^40) (fun s r=>r=errR s) (fun _ (r:Int)=>(.int .i64 r,[]))
noncomputable def GQ2:Nat→Option Ctr:=fun f=>if f=102 then some (Yv) else if f=100 then some (XO) else if f=101 then some (yp) else if f=103 then some (zkr) else none
theorem zmb:∀ g c,GQ2 g=some c→zc Tryz.prog g c:=okIf Ye (okIf U3 (okIf ZK (okIf zjj (zp))))
theorem Wa:zc Tryz.prog 53 JT:=by
 refine zf (fn:=Tryz.f53) (c:=Tryz.f53.body.getD .skip) rfl rfl rfl fun s hs O w0 Q hq=> ?_
 replace hq:=hq _ rfl
 refine zb.run hmix zmb [] 400 (T:=.ex (fun(x:List UInt8)=>eqL [AV.str s] [AV.str x]∧x.length<4611686018427387904) fun n=>.all (fun(r:List UInt8×List UInt8)=>r=(Prod.fst (cutR n),if Prod.snd (Prod.snd (cutR n))=true then Prod.fst (Prod.snd (cutR n)) else [(49:UInt8)])) fun n=>.ex (fun(x:List UInt8)=>eqL [AV.str n.1] [AV.str x]∧x.length<1099511627776) fun n_1=>.all (fun(r:List Nat×Bool×Bool)=>r=digR n_1) fun n_2=>.ex (fun(x:List UInt8)=>eqL [AV.str n.2] [AV.str x]∧x.length<1099511627776) fun n_3=>.all (fun(r:List Nat×Bool×Bool)=>r=digR n_3) fun n_4=>.ex (fun(x:List UInt8)=>(bif bif bif !Prod.snd n_2.2 then true else !Prod.snd n_4.2 then true else n_4.2.1 then true else decide (n.2=#[(48:UInt8)].toList))=false→eqL [AV.str s] [AV.str x]∧x.length<4611686018427387904) fun n_5=>.all (fun(x:Int)=>(bif bif bif !Prod.snd n_2.2 then true else !Prod.snd n_4.2 then true else n_4.2.1 then true else decide (n.2=#[(48:UInt8)].toList))=false→x=if zC n_5<n_5.length then(↑(zC n_5):Int) else(-1:Int)) fun n_6=>.ite (bif bif bif bif !Prod.snd n_2.2 then true else !Prod.snd n_4.2 then true else n_4.2.1 then true else decide (n.2=#[(48:UInt8)].toList) then true else bif decide ((0:Int)≤n_6) then decide (n.2=#[(49:UInt8)].toList) else false) (.leaf (.ret [.int .i64 12] [])) (.ite (bif decide ((1000:Int)<n_2.1.length) then true else decide ((1000:Int)<n_4.1.length)) (.leaf (.ret [.int .i64 14] [])) (.ex (fun(x:List UInt8×List UInt8)=>eqL [AV.str n.1,AV.str n.2] [AV.str x.1,AV.str x.2]∧x.1.length<1099511627776∧x.2.length<1099511627776) fun n=>.all (fun(r:List UInt8×Int)=>r=gcdR n.1 n.2) fun n=>.ex (fun(x:List UInt8)=>eqL [AV.str s] [AV.str x]∧x.length<4611686018427387904) fun n_7=>.all (fun(r:Int)=>r=if zC n_7<n_7.length then(↑(zC n_7):Int) else(-1:Int)) fun n_8=>.ite (bif decide ((0:Int)≤n_8) then !decide (n.1=#[(49:UInt8)].toList) else false) (.leaf (.ret [.int .i64 12] [])) (.leaf (.ret [.int .i64 0] []))))) (by kernel_rfl) ?_
 simp only [Tree.holds,zd,inR,lo,hi]
 refine⟨s,⟨by simp,by omega⟩,⟨_,rfl⟩,?_⟩
 rintro _ rfl
 have hlen:=Qv s
 have hfl:=zht s
 have hno:(cutR s).2.2=false→(cutR s).1=s:=by
  intro h
  unfold cutR at h ⊢
  split at h
  ·cases h
  ·rename_i hn; rw [if_neg hn]
 simp only [errR] at hq
 generalize cutR s=c at hq hlen hfl hno ⊢
 obtain⟨n,d,f⟩:=c
 simp only at hq hlen hfl hno ⊢
 obtain⟨e,he⟩:∃ e,(if f=true then d else [49])=e:=⟨_,rfl⟩
 have hel:e.length<1099511627776:=by
  rw [← he]; split
  ·omega
  ·simp
 simp only [he]
 refine⟨n,⟨by simp,by omega⟩,⟨_,rfl⟩,?_⟩
 rintro _ rfl
 refine⟨e,⟨by simp,by omega⟩,⟨_,rfl⟩,?_⟩
 rintro _ rfl
 refine⟨s,fun _=>⟨by simp,by omega⟩,⟨_,fun _=>rfl⟩,?_⟩
 intro sv hsv
 rcases QC n with ⟨hn1,hn2⟩ | ⟨hn1,ln,hn2,hn3⟩
 ·have hq:Q (.int .i64 12,[]):=by
   cases f with
   | false=>rw [if_neg (by decide),← hno rfl,hn1] at hq; exact hq
   | true=>rw [if_pos rfl,if_pos (.inl hn1)] at hq; exact hq
  simp only [hn2]
  exact⟨fun _=>RetR.scal hq rfl (by simp [resV]),fun h=>by simp at h⟩
 rcases QC e with ⟨he1,he2⟩ | ⟨he1,le,he2,he3⟩
 ·have hq:Q (.int .i64 12,[]):=by
   cases f with
   | false=>rw [if_neg (by decide)] at he; subst he; exact absurd he1 (by decide)
   | true=>
    rw [if_pos rfl] at he; subst he
    rw [if_pos rfl,if_pos (.inr (.inl he1))] at hq; exact hq
  simp only [hn2,he2]
  exact⟨fun _=>RetR.scal hq rfl (by simp [resV]),fun h=>by simp at h⟩
 simp only [hn2,he2,Bool.not_true,cond_false] at hsv ⊢
 cases f with
 | false=>
  rw [if_neg (by decide)] at he hq
  subst he
  have hnn:negI [49]=false:=by decide
  have h49:errI [49]=0:=by decide
  have hs:=hno rfl
  subst hs
  simp only [hnn,cond_false] at hsv ⊢
  have hsv:=hsv (by decide)
  rw [← hsv] at hfl
  rw [← hfl,hn3,he3,h49]
  refine⟨fun h=>by simp at h,fun _=>⟨fun h=> ?_,fun h=> ?_⟩⟩
  ·rcases wC n with e | e | e
   ·rw [e] at h; simp at h
   ·exact absurd e hn1
   ·rw [e] at hq; exact RetR.scal hq rfl (by simp [resV])
  ·have h0:errI n=0:=by
    rcases wC n with e | e | e
    ·exact e
    ·exact absurd e hn1
    ·rw [e] at h; simp at h
   rw [h0] at hq
   refine⟨(n,[49]),⟨by simp,by simp only; omega,by simp⟩,⟨_,rfl⟩,?_⟩
   rintro _ rfl
   refine⟨n,⟨by simp,by omega⟩,⟨_,rfl⟩,?_⟩
   rintro _ rfl
   rw [← hsv,← hfl]
   refine⟨fun h=>by simp at h,fun _=>RetR.scal hq rfl (by simp [resV])⟩
 | true=>
  rw [if_pos rfl] at he hq
  subst he
  cases hng:negI d with
  | true=>
   rw [if_pos (.inr (.inr (.inl hng)))] at hq
   exact⟨fun _=>RetR.scal hq rfl (by simp [resV]),fun h=>by simp at h⟩
  | false=>
   simp only [hng,cond_false] at hsv ⊢
   by_cases h48:d=[48]
   ·rw [if_pos (.inr (.inr (.inr (.inl h48))))] at hq
    rw [decide_eq_true h48]
    exact⟨fun _=>RetR.scal hq rfl (by simp [resV]),fun h=>by simp at h⟩
   ·rw [decide_eq_false h48] at hsv ⊢
    have hsv:=hsv rfl
    rw [← hsv] at hfl
    rw [← hfl]
    simp only [cond_false,cond_true]
    by_cases h49:d=[49]
    ·rw [if_pos (.inr (.inr (.inr (.inr h49))))] at hq
     rw [decide_eq_true h49]
     exact⟨fun _=>RetR.scal hq rfl (by simp [resV]),fun h=>by simp at h⟩
    ·rw [decide_eq_false h49]
     rw [if_neg (by simp [hn1,he1,hng,h48,h49])] at hq
     refine⟨fun h=>(by cases h),fun _=> ?_⟩
     rw [hn3,he3]
     by_cases hn0:errI n=0
     ·by_cases hd0:errI d=0
      ·rw [if_neg (by simp [hn0,hd0])] at hq
       refine⟨fun h=>by simp [hn0,hd0] at h,fun _=> ?_⟩
       refine⟨(n,d),⟨by simp,by simp only; omega,by simp only; omega⟩,⟨_,rfl⟩,?_⟩
       rintro _ rfl
       refine⟨s,⟨by simp,by omega⟩,⟨_,rfl⟩,?_⟩
       rintro _ rfl
       rw [← hsv,← hfl]
       refine⟨fun h=> ?_,fun h=> ?_⟩
       ·rw [if_pos (by simpa using h)] at hq
        exact RetR.scal hq rfl (by simp [resV])
       ·rw [if_neg (by simpa using h)] at hq
        exact RetR.scal hq rfl (by simp [resV])
      ·rw [if_pos (.inr hd0)] at hq
       refine⟨fun _=>RetR.scal hq rfl (by simp [resV]),fun h=>by simp [hn0,hd0] at h⟩
     ·rw [if_pos (.inl hn0)] at hq
      refine⟨fun _=>RetR.scal hq rfl (by simp [resV]),fun h=>by simp [hn0] at h⟩
noncomputable def K49:List Go.Sx.Item:=[.code (Tryz.f49.body.getD .skip)]
noncomputable def K51:List Go.Sx.Item:=[.code (Tryz.f51.body.getD .skip)]
def xp:Ctr:=ctrP true (fun d:Int=>[.int .i64 d]) (fun _=>True) (fun d r=>r=dayB d) (fun _ (r:Bool)=>(.bool r,[]))
theorem zca:zc Tryz.prog 67 xp:=by
 refine zf (fn:=Tryz.f67) (c:=Tryz.f67.body.getD .skip) rfl rfl rfl fun d hs O w0 Q hq=> ?_
 replace hq:=hq _ rfl
 refine zb.run hmix zF [] 400 (T:=.leaf (.ret [.bool (bif decide ((0:Int)≤d) then decide (d≤99999) else false)] [])) (by kernel_rfl) ?_
 simp only [Tree.holds,zd]
 refine RetR.scal hq rfl ?_
 simp only [resV,dayB]
 cases decide (0≤d)<;>rfl
theorem Qn:zc Tryz.prog 52 xp:=by
 refine zf (fn:=Tryz.f52) (c:=Tryz.f52.body.getD .skip) rfl rfl rfl fun d hs O w0 Q hq=> ?_
 replace hq:=hq _ rfl
 refine zb.run hmix zF [] 400 (T:=.leaf (.ret [.bool (bif decide ((0:Int)≤d) then decide (d≤99999) else false)] [])) (by kernel_rfl) ?_
 simp only [Tree.holds,zd]
 refine RetR.scal hq rfl ?_
 simp only [resV,dayB]
 cases decide (0≤d)<;>rfl
theorem UW(c:UInt8):(bif bif decide (97≤(c.toNat:Int)) then decide ((c.toNat:Int)≤122) else false then true else bif decide (65≤(c.toNat:Int)) then decide ((c.toNat:Int)≤90) else false)=isL c:=by
 have e1:decide (97≤(c.toNat:Int))=decide (97≤c.toNat):=decide_eq_decide.2 (by omega)
 have e2:decide ((c.toNat:Int)≤122)=decide (c.toNat≤122):=decide_eq_decide.2 (by omega)
 have e3:decide (65≤(c.toNat:Int))=decide (65≤c.toNat):=decide_eq_decide.2 (by omega)
 have e4:decide ((c.toNat:Int)≤90)=decide (c.toNat≤90):=decide_eq_decide.2 (by omega)
 rw [e1,e2,e3,e4]
 simp only [isL]
 cases decide (97≤c.toNat)<;>cases decide (c.toNat≤122)<;>cases decide (65≤c.toNat)<;>rfl
def za3:Ctr:=ctrP true (fun c:UInt8=>[.int .u8 (c.toNat:Int)]) (fun _=>True) (fun c r=>r=isL c) (fun _ (r:Bool)=>(.bool r,[]))
theorem zbc:zc Tryz.prog 95 za3:=by
 refine zf (fn:=Tryz.f95) (c:=Tryz.f95.body.getD .skip) rfl rfl rfl fun c hs O w0 Q hq=> ?_
 replace hq:=hq _ rfl
 refine zb.run hmix zF [] 400 (T:=.leaf (.ret [.bool (bif bif decide ((97:Int)≤(↑(UInt8.toNat c):Int)) then decide ((↑(UInt8.toNat c):Int)≤122) else false then true else bif decide ((65:Int)≤(↑(UInt8.toNat c):Int)) then decide ((↑(UInt8.toNat c):Int)≤90) else false)] [])) (by kernel_rfl) ?_
 simp only [Tree.holds,zd]
 refine RetR.scal hq rfl ?_
 simp only [resV]
 rw [UW]
theorem yh(c d:UInt8):decide ((c.toNat:Int)=(d.toNat:Int))=(c == d):=by
 by_cases h:c=d
 ·subst h; simp
 ·rw [decide_eq_false fun h2=>h (ZY h2)]
  simp [h]
theorem zju(c:UInt8):(bif decide ((c.toNat:Int)<48) then true else decide (57<(c.toNat:Int))) = !isD c:=by
 rw [Bool.cond_eq_ite]; exact xW c
theorem zgt(c:UInt8):(bif decide (48≤(c.toNat:Int)) then decide ((c.toNat:Int)≤57) else false)=isD c:=by
 have e1:decide (48≤(c.toNat:Int))=decide (48≤c.toNat):=decide_eq_decide.2 (by omega)
 have e2:decide ((c.toNat:Int)≤57)=decide (c.toNat≤57):=decide_eq_decide.2 (by omega)
 rw [e1,e2]; simp only [isD]
 cases decide (48≤c.toNat)<;>cases decide (c.toNat≤57)<;>rfl
theorem zh8(c:UInt8):(bif bif bif !isL c then bif decide ((c.toNat:Int)<48) then true else decide (57<(c.toNat:Int)) else false then !decide ((c.toNat:Int)=95) else false then !decide ((c.toNat:Int)=45) else false) = !isN c:=by
 rw [zju]
 have e1:decide ((c.toNat:Int)=95)=(c == 95):=yh c 95
 have e2:decide ((c.toNat:Int)=45)=(c == 45):=yh c 45
 rw [e1,e2]; simp only [isN]
 cases isL c<;>cases isD c<;>cases (c == 95)<;>cases (c == 45)<;>rfl
theorem zdb(c:UInt8)(z:Bool):(bif !bif bif decide (97≤(c.toNat:Int)) then decide ((c.toNat:Int)≤122) else false then true else bif decide (65≤(c.toNat:Int)) then decide ((c.toNat:Int)≤90) else false then
  bif z then true else !bif bif bif decide (48≤(c.toNat:Int)) then decide ((c.toNat:Int)≤57) else false then true else decide ((c.toNat:Int)=95) then true else decide ((c.toNat:Int)=45) else false) = !(isL c||(!z&&isN c)):=by
 rw [UW,zgt]
 have e1:decide ((c.toNat:Int)=95)=(c == 95):=yh c 95
 have e2:decide ((c.toNat:Int)=45)=(c == 45):=yh c 45
 rw [e1,e2]; simp only [isN]
 cases isL c<;>cases z<;>cases isD c<;>cases (c == 95)<;>cases (c == 45)<;>rfl
theorem zj5{c:UInt8}(h:isL c=true):isN c=true:=by simp [isN,h]
def yC:Ctr:=ctrP true (fun s:List UInt8=>[.str s]) (fun s=>s.length<2^62) (fun s r=>r=zN s) (fun _ (r:Bool)=>(.bool r,[]))
noncomputable def GN1:Nat→Option Ctr:=fun f=>if f=95 then some (za3) else none
theorem zg4:∀ g c,GN1 g=some c→zc Tryz.prog g c:=okIf zbc (zp)
def SNa(s:List UInt8)(i:Nat):KV:=[(0,.str s),(20,.int .i64 (s.length:Int)),(21,.int .i64 (i:Int)),(31,.undef),(32,.undef),(33,.undef),(34,.undef),(35,.undef),(36,.undef),(39,.undef),(40,.undef),(43,.undef),(44,.undef)]
theorem zbv{O:Nat→Prop}{w0:World}{Q:AV×Heap→Prop}{Hs:Nat→KV→Heap→Prop}(s:List UInt8)(hs:s.length<2^62)(hq:Q (.bool (s.all isN),[])) :
  zb Tryz.prog Tryz.f49 O 0 w0 [] Hs (RetR yC 0 Q) (.code (.loop (lps K49 0).1)::(lps K49 0).2) (mk Tryz.f49.ntmps (SNa s 0) []):=by
 refine zb.loop (ι:={i:Nat // i≤s.length∧∀ j,j<i→isN (s.getD j 0)=true}) (fun i=>SNa s i.1) (fun _=>[]) (fun i=>s.length - i.1) ⟨0,Nat.zero_le _,fun j hj=>by omega⟩ 0 ?_ ?_ (by kernel_rfl)
 ·exact⟨by simp [SNa],by simp,by kernel_rfl,Nat.zero_le _⟩
 ·rintro⟨i,hil,hib⟩
  refine zb.run hmix zg4 [0,20,21,31,32,33,34,35,36,39,40,43,44] 400 (T:=.ite (decide ((↑i:Int)<s.length)) (.side ((0:Int)≤i∧(↑i:Int)<s.length) (.ex (fun(x:UInt8)=>eqL [AV.int .u8 (↑(UInt8.toNat (s.getD (↑i:Int).toNat (0:UInt8))):Int)] [AV.int .u8 (↑(UInt8.toNat x):Int)]∧True) fun n=>.all (fun(r:Bool)=>r=isL n) fun n=>.ite (bif bif bif !n then bif decide ((↑(UInt8.toNat (s.getD (↑i:Int).toNat (0:UInt8))):Int)<48) then true else decide ((57:Int)<(↑(UInt8.toNat (s.getD (↑i:Int).toNat (0:UInt8))):Int)) else false then !decide ((↑(UInt8.toNat (s.getD (↑i:Int).toNat (0:UInt8))):Int)=95) else false then !decide ((↑(UInt8.toNat (s.getD (↑i:Int).toNat (0:UInt8))):Int)=45) else false) (.leaf (.ret [.bool false] [])) (.side (inR .i64 ((↑i:Int)+(1:Int))) (.leaf (.back 0 [(0,.str s),(20,.int .i64 s.length),(21,.int .i64 ((↑i:Int)+(1:Int))),(31,.undef),(32,.undef),(33,.undef),(34,.undef),(35,.undef),(36,.undef),(39,.undef),(40,.undef),(43,.undef),(44,.undef)] []))))) (.leaf (.ret [.bool true] []))) (by kernel_rfl) ?_
  simp only [Tree.holds,zd,inR,lo,hi,Int.toNat_natCast]
  refine⟨fun hlt=> ?_,fun hge=> ?_⟩
  ·have hlt:i<s.length:=by have:=of_decide_eq_true hlt; omega
   refine⟨by omega,fun _=>⟨s.getD i 0,⟨by simp,trivial⟩,⟨_,rfl⟩,?_⟩⟩
   rintro _ rfl
   rw [zh8]
   refine⟨fun h=> ?_,fun h=>⟨by omega,fun _=> ?_⟩⟩
   ·rw [Za hlt (by simpa using h)] at hq
    exact RetR.scal hq rfl (by simp [resV])
   ·rw [if_pos trivial]
    refine⟨⟨i+1,hlt,fun j hj=> ?_⟩,by show s.length - (i+1)<s.length - i; omega,by simp [SNa],by simp,by kernel_rfl,Nat.zero_le _⟩
    rcases Nat.lt_or_ge j i with h1 | h1
    ·exact hib j h1
    ·have:j=i:=by omega
     rw [this]; simpa using h
  ·have hge:i=s.length:=by have:=of_decide_eq_false hge; omega
   subst hge
   rw [Yf hib] at hq
   exact RetR.scal hq rfl (by simp [resV])
theorem VE:zc Tryz.prog 49 yC:=by
 refine zf (fn:=Tryz.f49) (c:=Tryz.f49.body.getD .skip) rfl rfl rfl fun s hs O w0 Q hq=> ?_
 replace hq:=hq _ rfl
 refine zb.run hmix zg4 [0,20,21,31,32,33,34,35,36,39,40,43,44] 400 (T:=.side ((bif decide ((↑s.length:Int)<1) then true else decide ((40:Int)<s.length))=false→(0:Int)≤0∧(0:Int)<s.length) (.ex (fun(x:UInt8)=>(bif decide ((↑s.length:Int)<1) then true else decide ((40:Int)<s.length))=false→eqL [AV.int .u8 (↑(UInt8.toNat (s.getD 0 (0:UInt8))):Int)] [AV.int .u8 (↑(UInt8.toNat x):Int)]∧True) fun n=>.all (fun(x:Bool)=>(bif decide ((↑s.length:Int)<1) then true else decide ((40:Int)<s.length))=false→x=isL n) fun n=>.ite (bif bif decide ((↑s.length:Int)<1) then true else decide ((40:Int)<s.length) then true else !n) (.leaf (.ret [.bool false] [])) (.leaf (.loop (Prod.fst (lps K49 0)) (Prod.snd (lps K49 0)) [(0,.str s),(20,.int .i64 s.length),(21,.int .i64 0),(31,.undef),(32,.undef),(33,.undef),(34,.undef),(35,.undef),(36,.undef),(39,.undef),(40,.undef),(43,.undef),(44,.undef)] [])))) (by kernel_rfl) ?_
 simp only [Tree.holds,zd,inR,lo,hi]
 have hd:decide ((s.length:Int)<1) = !decide (0<s.length):=by
  by_cases h:0<s.length
  ·rw [decide_eq_true h,decide_eq_false (by omega)]; rfl
  ·rw [decide_eq_false h,decide_eq_true (by omega)]; rfl
 have hd2:decide (40<(s.length:Int)) = !decide (s.length≤40):=by
  by_cases h:s.length≤40
  ·rw [decide_eq_true h,decide_eq_false (by omega)]; rfl
  ·rw [decide_eq_false h,decide_eq_true (by omega)]; rfl
 rw [hd,hd2]
 have hnb:zN s=(decide (0<s.length)&&decide (s.length≤40)&&isL (s.getD 0 0)&&s.all isN):=rfl
 cases h1:decide (0<s.length) with
 | false=>
  rw [hnb,h1] at hq
  refine⟨fun h=>(by cases h),fun _=>⟨0,fun h=>(by cases h),⟨false,fun h=>(by cases h)⟩,?_⟩⟩
  intro b _
  exact⟨fun _=>RetR.scal hq rfl (by simp [resV]),fun h=>(by cases h)⟩
 | true=>
  have h1':=of_decide_eq_true h1
  cases h2:decide (s.length≤40) with
  | false=>
   rw [hnb,h1,h2] at hq
   refine⟨fun h=>(by cases h),fun _=>⟨0,fun h=>(by cases h),⟨false,fun h=>(by cases h)⟩,?_⟩⟩
   intro b _
   exact⟨fun _=>RetR.scal hq rfl (by simp [resV]),fun h=>(by cases h)⟩
  | true=>
   refine⟨fun _=>by omega,fun _=>⟨s.getD 0 0,fun _=>⟨by simp,trivial⟩,⟨_,fun _=>rfl⟩,?_⟩⟩
   intro b hb
   have hb:=hb rfl
   subst hb
   cases h3:isL (s.getD 0 0) with
   | false=>
    rw [hnb,h1,h2,h3] at hq
    exact⟨fun _=>RetR.scal hq rfl (by simp [resV]),fun h=>(by cases h)⟩
   | true=>
    rw [hnb,h1,h2,h3] at hq
    refine⟨fun h=>(by cases h),fun _=> ?_⟩
    exact zbv s hs hq
def SNr(s:List UInt8)(i:Nat):KV:=[(0,.str s),(3,.int .i64 (i:Int)),(27,.undef),(28,.undef),(31,.undef),(32,.undef),(33,.undef),(34,.undef),(35,.undef),(36,.undef),(41,.undef),(42,.undef),(45,.undef),(46,.undef),(49,.undef),(50,.undef),(55,.undef),(56,.undef),(57,.undef),(58,.undef),(59,.undef),(60,.undef)]
theorem YD{O:Nat→Prop}{w0:World}{Q:AV×Heap→Prop}{Hs:Nat→KV→Heap→Prop}(s:List UInt8)(hs:s.length<2^62)(h0:0<s.length)(hq:Q (.bool (isL (s.getD 0 0)&&s.all isN),[])) :
  zb Tryz.prog Tryz.f51 O 0 w0 [] Hs (RetR yC 0 Q) (.code (.loop (lps K51 0).1)::(lps K51 0).2) (mk Tryz.f51.ntmps (SNr s 0) []):=by
 refine zb.loop (ι:={i:Nat // i≤s.length∧(∀ j,j<i→isN (s.getD j 0)=true)∧(0<i→isL (s.getD 0 0)=true)}) (fun i=>SNr s i.1) (fun _=>[]) (fun i=>s.length - i.1) ⟨0,Nat.zero_le _,fun j hj=>by omega,fun h=>by omega⟩ 0 ?_ ?_ (by kernel_rfl)
 ·exact⟨by simp [SNr],by simp,by kernel_rfl,Nat.zero_le _⟩
 ·rintro⟨i,hil,hib,hi0⟩
  refine zb.run hmix zF [0,3,27,28,31,32,33,34,35,36,41,42,45,46,49,50,55,56,57,58,59,60] 400 (T:=.ite (decide ((↑i:Int)<s.length)) (.side ((0:Int)≤i∧(↑i:Int)<s.length) (.ite (bif !bif bif decide ((97:Int)≤(↑(UInt8.toNat (s.getD (↑i:Int).toNat (0:UInt8))):Int)) then decide ((↑(UInt8.toNat (s.getD (↑i:Int).toNat (0:UInt8))):Int)≤122) else false then true else bif decide ((65:Int)≤(↑(UInt8.toNat (s.getD (↑i:Int).toNat (0:UInt8))):Int)) then decide ((↑(UInt8.toNat (s.getD (↑i:Int).toNat (0:UInt8))):Int)≤90) else false then bif decide ((↑i:Int)=0) then true else !bif bif bif decide ((48:Int)≤(↑(UInt8.toNat (s.getD (↑i:Int).toNat (0:UInt8))):Int)) then decide ((↑(UInt8.toNat (s.getD (↑i:Int).toNat (0:UInt8))):Int)≤57) else false then true else decide ((↑(UInt8.toNat (s.getD (↑i:Int).toNat (0:UInt8))):Int)=95) then true else decide ((↑(UInt8.toNat (s.getD (↑i:Int).toNat (0:UInt8))):Int)=45) else false) (.leaf (.ret [.bool false] [])) (.side (inR .i64 ((↑i:Int)+(1:Int))) (.leaf (.back 0 [(0,.str s),(3,.int .i64 ((↑i:Int)+(1:Int))),(27,.undef),(28,.undef),(31,.undef),(32,.undef),(33,.undef),(34,.undef),(35,.undef),(36,.undef),(41,.undef),(42,.undef),(45,.undef),(46,.undef),(49,.undef),(50,.undef),(55,.undef),(56,.undef),(57,.undef),(58,.undef),(59,.undef),(60,.undef)] []))))) (.leaf (.ret [.bool true] []))) (by kernel_rfl) ?_
  simp only [Tree.holds,zd,inR,lo,hi,Int.toNat_natCast]
  refine⟨fun hlt=> ?_,fun hge=> ?_⟩
  ·have hlt:i<s.length:=by have:=of_decide_eq_true hlt; omega
   refine⟨by omega,fun _=> ?_⟩
   rw [zdb]
   have hz:decide ((i:Int)=0)=decide (i=0):=decide_eq_decide.2 (by omega)
   rw [hz]
   refine⟨fun h=> ?_,fun h=>⟨by omega,fun _=> ?_⟩⟩
   ·have hf:(isL (s.getD 0 0)&&s.all isN)=false:=by
     have h:(isL (s.getD i 0)||(!decide (i=0)&&isN (s.getD i 0)))=false:=by simpa only [Bool.not_eq_true'] using h
     rcases Nat.eq_zero_or_pos i with hi | hi
     ·subst hi
      have:isL (s.getD 0 0)=false:=by
       cases h3:isL (s.getD 0 0) with
       | false=>rfl
       | true=>rw [h3] at h; cases h
      rw [this]; rfl
     ·rw [decide_eq_false (by omega)] at h
      have:isN (s.getD i 0)=false:=by
       cases h3:isN (s.getD i 0) with
       | false=>rfl
       | true=>rw [h3] at h; revert h; cases isL (s.getD i 0)<;>intro h<;>cases h
      rw [Za hlt this]; cases isL (s.getD 0 0)<;>rfl
    rw [hf] at hq
    exact RetR.scal hq rfl (by simp [resV])
   ·rw [if_pos trivial]
    have h:(isL (s.getD i 0)||(!decide (i=0)&&isN (s.getD i 0)))=true:=by simpa only [Bool.not_eq_false'] using h
    have hN:isN (s.getD i 0)=true:=by
     cases h3:isL (s.getD i 0) with
     | true=>exact zj5 h3
     | false=>
      rw [h3] at h
      revert h; cases decide (i=0)<;>cases isN (s.getD i 0)<;>simp
    refine⟨⟨i+1,hlt,fun j hj=> ?_,fun _=> ?_⟩,by show s.length - (i+1)<s.length - i; omega,by simp [SNr],by simp,by kernel_rfl,Nat.zero_le _⟩
    ·rcases Nat.lt_or_ge j i with h1 | h1
     ·exact hib j h1
     ·have:j=i:=by omega
      rw [this]; exact hN
    ·rcases Nat.eq_zero_or_pos i with h1 | h1
     ·subst h1
      cases h3:isL (s.getD 0 0) with
      | true=>rfl
      | false=>rw [h3] at h; cases h
     ·exact hi0 h1
  ·have hge:i=s.length:=by have:=of_decide_eq_false hge; omega
   subst hge
   rw [Yf hib,hi0 h0] at hq
   exact RetR.scal hq rfl (by simp [resV])
theorem Jo:zc Tryz.prog 51 yC:=by
 refine zf (fn:=Tryz.f51) (c:=Tryz.f51.body.getD .skip) rfl rfl rfl fun s hs O w0 Q hq=> ?_
 replace hq:=hq _ rfl
 refine zb.run hmix zF [0,3,27,28,31,32,33,34,35,36,41,42,45,46,49,50,55,56,57,58,59,60] 400 (T:=.ite (bif decide ((↑s.length:Int)=0) then true else decide ((40:Int)<s.length)) (.leaf (.ret [.bool false] [])) (.leaf (.loop (Prod.fst (lps K51 0)) (Prod.snd (lps K51 0)) [(0,.str s),(3,.int .i64 0),(27,.undef),(28,.undef),(31,.undef),(32,.undef),(33,.undef),(34,.undef),(35,.undef),(36,.undef),(41,.undef),(42,.undef),(45,.undef),(46,.undef),(49,.undef),(50,.undef),(55,.undef),(56,.undef),(57,.undef),(58,.undef),(59,.undef),(60,.undef)] []))) (by kernel_rfl) ?_
 simp only [Tree.holds,zd,inR,lo,hi]
 have hd:decide ((s.length:Int)=0) = !decide (0<s.length):=by
  by_cases h:0<s.length
  ·rw [decide_eq_true h,decide_eq_false (by omega)]; rfl
  ·rw [decide_eq_false h,decide_eq_true (by omega)]; rfl
 have hd2:decide (40<(s.length:Int)) = !decide (s.length≤40):=by
  by_cases h:s.length≤40
  ·rw [decide_eq_true h,decide_eq_false (by omega)]; rfl
  ·rw [decide_eq_false h,decide_eq_true (by omega)]; rfl
 rw [hd,hd2]
 have hnb:zN s=(decide (0<s.length)&&decide (s.length≤40)&&isL (s.getD 0 0)&&s.all isN):=rfl
 cases h1:decide (0<s.length) with
 | false=>
  rw [hnb,h1] at hq
  exact⟨fun _=>RetR.scal hq rfl (by simp [resV]),fun h=>(by cases h)⟩
 | true=>
  cases h2:decide (s.length≤40) with
  | false=>
   rw [hnb,h1,h2] at hq
   exact⟨fun _=>RetR.scal hq rfl (by simp [resV]),fun h=>(by cases h)⟩
  | true=>
   rw [hnb,h1,h2] at hq
   refine⟨fun h=>(by cases h),fun _=> ?_⟩
   exact YD s hs (of_decide_eq_true h1) hq
noncomputable def K78:List Go.Sx.Item:=[.code (Tryz.f78.body.getD .skip)]
noncomputable def K77:List Go.Sx.Item:=[.code (Tryz.f77.body.getD .skip)]
theorem zR{X R:Type}{P:Program}{g:Nat}{fresh:Bool}{inp:X→List AV}{pre:X→Prop}{post:X→R→Prop}{out:X→R→AV×Heap}(μ:X→Nat)
  (step:∀ n,zc P g (ctrP fresh inp (fun x=>μ x<n∧pre x) post out)→zc P g (ctrP fresh inp (fun x=>μ x<n+1∧pre x) post out)):zc P g (ctrP fresh inp pre post out):=by
 have all:∀ n,zc P g (ctrP fresh inp (fun x=>μ x<n∧pre x) post out):=by
  intro n
  induction n with
  | zero=>
   intro args hc Q hq _
   simp only [ctrP] at hq
   split at hq
   ·obtain⟨x,⟨_,h,_⟩,_⟩:=hq
    exact absurd h (Nat.not_lt_zero _)
   ·exact hq.elim
  | succ n ih=>exact step n ih
 intro args hc Q hq hf
 match hc,hq,hf with
 | [],hq,hf=>
  obtain⟨x,⟨h1,h2⟩,h3⟩:=hq
  exact all (μ x+1) args [] Q ⟨x,⟨h1,Nat.lt_succ_self _,h2⟩,h3⟩ hf
 | _::_,hq,_=>exact hq.elim
def WJ(n:Nat):Ctr:=ctrP true (fun x:Ex=>[x.exA]) (fun x=>x.size<n∧x.size<2^62) (fun x r=>r=x.size) (fun _ (r:Nat)=>(.int .i64 (r:Int),[]))
def GSz(g n:Nat):Nat→Option Ctr:=fun f=>if f=g then some (WJ n) else none
theorem Kt{g n:Nat}(h:zc Tryz.prog g (WJ n)):∀ f c,GSz g n f=some c→zc Tryz.prog f c:=by
 intro f c hf
 simp only [GSz] at hf
 split at hf
 ·rename_i hg; subst hg; cases hf; exact h
 ·cases hf
theorem wH{x:Ex}{k d:Int}{r m:List UInt8}{l:Nat}{g:Nat→Nat→AV}(hk:k=x.kind)(hr:r=x.rat)(hm:m=x.name)(hd:d=x.date)(hl:l=x.sub.length)(hg:eqG x.sub.length 5 g (Ex.exG x.sub)):eqL [.agg [.int .u8 k,.str r,.str m,.int .i64 d,.sl l 5 g]] [x.exA]:=by
 subst hk; subst hr; subst hm; subst hd; subst hl
 exact⟨⟨⟨rfl,rfl⟩,rfl,rfl,⟨rfl,rfl⟩,⟨rfl,rfl,hg⟩,trivial⟩,trivial⟩
def SSz(s:List Ex)(c i:Nat):KV:=[(3,.int .i64 (c:Int)),(7,Ex.exS s),(8,.int .i64 (s.length:Int)),(9,.int .i64 (i:Int))]
theorem zbu(n:Nat)(ih:zc Tryz.prog 78 (WJ n)):zc Tryz.prog 78 (WJ (n+1)):=by
 refine zf (fn:=Tryz.f78) (c:=Tryz.f78.body.getD .skip) rfl rfl rfl fun x hx O w0 Q hq=> ?_
 replace hq:=hq _ rfl
 obtain⟨hxn,hxs⟩:=hx
 rw [Ex.size_eq] at hxn hxs hq
 obtain⟨k,r,m,d,s⟩:=x
 simp only [Ex.sub] at hxn hxs hq
 refine zb.run hmix (Kt ih) [3,7,8,9] 400 (T:=.leaf (.loop (Prod.fst (lps K78 0)) (Prod.snd (lps K78 0)) [(3,.int .i64 1),(7,.sl s.length 5 (Ex.exG s)),(8,.int .i64 s.length),(9,.int .i64 0)] [.box [.int .u8 k,.str r,.str m,.int .i64 d,.sl s.length 5 (Ex.exG s)]])) (by kernel_rfl) ?_
 simp only [Tree.holds,zd]
 have hlen:=Ex.zy s
 refine zb.loop (ι:={i:Nat // i≤s.length}) (fun i=>SSz s (1+Ex.zo (s.take i.1)) i.1) (fun _=>[]) (fun i=>s.length - i.1) ⟨0,Nat.zero_le _⟩ 0 ?_ ?_ (by kernel_rfl)
 ·exact⟨by simp [SSz,Ex.zo,Ex.exS,za],by simp,by kernel_rfl,Nat.zero_le _⟩
 ·rintro⟨i,hil⟩
  have hle:=Ex.wI s i
  obtain⟨c,hc⟩:∃ c,1+Ex.zo (s.take i)=c:=⟨_,rfl⟩
  simp only [hc]
  refine zb.run hmix (Kt ih) [3,7,8,9] 400 (T:=.ite (decide ((↑i:Int)<s.length)) (.side ((0:Int)≤i∧(↑i:Int)<s.length) (.ex (fun(x:Ex)=>eqL [AV.agg [AV.int .u8 (Ex.kind (s.getD (↑i:Int).toNat Ex.nil)),AV.str (Ex.rat (s.getD (↑i:Int).toNat Ex.nil)),AV.str (Ex.name (s.getD (↑i:Int).toNat Ex.nil)),AV.int .i64 (Ex.date (s.getD (↑i:Int).toNat Ex.nil)),AV.sl (List.length (Ex.sub (s.getD (↑i:Int).toNat Ex.nil))) 5 (Ex.deep (s.getD (↑i:Int).toNat Ex.nil))]] [AV.agg [AV.int .u8 x.kind,AV.str x.rat,AV.str x.name,AV.int .i64 x.date,AV.sl x.sub.length 5 (Ex.exG x.sub)]]∧Ex.size x<n∧Ex.size x<4611686018427387904) fun n=>.all (fun(r:Nat)=>r=Ex.size n) fun n=>.side (inR .i64 ((↑c:Int)+n)) (.side (inR .i64 ((↑i:Int)+(1:Int))) (.leaf (.back 0 [(3,.int .i64 ((↑c:Int)+n)),(7,.sl s.length 5 (Ex.exG s)),(8,.int .i64 s.length),(9,.int .i64 ((↑i:Int)+(1:Int)))] [.box [.int .u8 (Ex.kind (s.getD (↑i:Int).toNat Ex.nil)),.str (Ex.rat (s.getD (↑i:Int).toNat Ex.nil)),.str (Ex.name (s.getD (↑i:Int).toNat Ex.nil)),.int .i64 (Ex.date (s.getD (↑i:Int).toNat Ex.nil)),.sl (List.length (Ex.sub (s.getD (↑i:Int).toNat Ex.nil))) 5 (Ex.deep (s.getD (↑i:Int).toNat Ex.nil))]]))))) (.leaf (.ret [.int .i64 c] []))) (by kernel_rfl) ?_
  simp only [Tree.holds,zd,inR,lo,hi,Int.toNat_natCast]
  refine⟨fun hlt=> ?_,fun hge=> ?_⟩
  ·have hlt:i<s.length:=by have:=of_decide_eq_true hlt; omega
   have hg:=Ex.qg hlt
   have ht:=Ex.ki s i hlt
   have hle2:=Ex.wI s (i+1)
   refine⟨by omega,fun _=>⟨s.getD i Ex.nil,⟨wH rfl rfl rfl rfl rfl (Ex.zA _),by omega,by omega⟩,⟨_,rfl⟩,?_⟩⟩
   rintro _ rfl
   refine⟨by omega,fun _=>⟨by omega,fun _=> ?_⟩⟩
   rw [if_pos trivial]
   refine⟨⟨i+1,hlt⟩,by show s.length - (i+1)<s.length - i; omega,?_,by simp,by kernel_rfl,Nat.zero_le _⟩
   simp [SSz,Ex.exS,za,ht]; omega
  ·have hge:i=s.length:=by have:=of_decide_eq_false hge; omega
   subst hge
   rw [List.take_length] at hc
   rw [hc] at hq
   exact RetR.scal hq rfl (by simp [resV])
def uD:Ctr:=ctrP true (fun x:Ex=>[x.exA]) (fun x=>x.size<2^62) (fun x r=>r=x.size) (fun _ (r:Nat)=>(.int .i64 (r:Int),[]))
theorem zb1:zc Tryz.prog 78 uD:=zR Ex.size zbu
def boxE(k:Int)(r m:List UInt8)(d:Int)(s:List Ex):Heap:=[.box [.int .u8 k,.str r,.str m,.int .i64 d,Ex.exS s]]
def SSr(c i:Nat):KV:=[(1,.ptr 0 0),(3,.int .i64 (c:Int)),(4,.int .i64 (i:Int))]
theorem Yy(n:Nat)(ih:zc Tryz.prog 77 (WJ n)):zc Tryz.prog 77 (WJ (n+1)):=by
 refine zf (fn:=Tryz.f77) (c:=Tryz.f77.body.getD .skip) rfl rfl rfl fun x hx O w0 Q hq=> ?_
 replace hq:=hq _ rfl
 obtain⟨hxn,hxs⟩:=hx
 rw [Ex.size_eq] at hxn hxs hq
 obtain⟨k,r,m,d,s⟩:=x
 simp only [Ex.sub] at hxn hxs hq
 refine zb.run hmix (Kt ih) [1,3,4] 400 (T:=.leaf (.loop (Prod.fst (lps K77 0)) (Prod.snd (lps K77 0)) [(1,.ptr 0 0),(3,.int .i64 1),(4,.int .i64 0)] [.box [.int .u8 k,.str r,.str m,.int .i64 d,.sl s.length 5 (Ex.exG s)]])) (by kernel_rfl) ?_
 simp only [Tree.holds,zd]
 have hlen:=Ex.zy s
 refine zb.loop (ι:={i:Nat // i≤s.length}) (fun i=>SSr (1+Ex.zo (s.take i.1)) i.1) (fun _=>boxE k r m d s) (fun i=>s.length - i.1) ⟨0,Nat.zero_le _⟩ 0 ?_ ?_ (by kernel_rfl)
 ·exact⟨by simp [SSr,Ex.zo],by simp [boxE,Ex.exS,za],by kernel_rfl,Nat.zero_le _⟩
 ·rintro⟨i,hil⟩
  have hle:=Ex.wI s i
  obtain⟨c,hc⟩:∃ c,1+Ex.zo (s.take i)=c:=⟨_,rfl⟩
  simp only [hc]
  refine zb.run hmix (Kt ih) [1,3,4] 400 (T:=.ite (decide ((↑i:Int)<s.length)) (.side ((0:Int)≤i∧(↑i:Int)<s.length) (.ex (fun(x:Ex)=>eqL [AV.agg [AV.int .u8 (Ex.kind (s.getD (↑i:Int).toNat Ex.nil)),AV.str (Ex.rat (s.getD (↑i:Int).toNat Ex.nil)),AV.str (Ex.name (s.getD (↑i:Int).toNat Ex.nil)),AV.int .i64 (Ex.date (s.getD (↑i:Int).toNat Ex.nil)),AV.sl (List.length (Ex.sub (s.getD (↑i:Int).toNat Ex.nil))) 5 (Ex.deep (s.getD (↑i:Int).toNat Ex.nil))]] [AV.agg [AV.int .u8 x.kind,AV.str x.rat,AV.str x.name,AV.int .i64 x.date,AV.sl x.sub.length 5 (Ex.exG x.sub)]]∧Ex.size x<n∧Ex.size x<4611686018427387904) fun n=>.all (fun(r:Nat)=>r=Ex.size n) fun n=>.side (inR .i64 ((↑c:Int)+n)) (.side (inR .i64 ((↑i:Int)+(1:Int))) (.leaf (.back 0 [(1,.ptr 0 0),(3,.int .i64 ((↑c:Int)+n)),(4,.int .i64 ((↑i:Int)+(1:Int)))] [.box [.int .u8 k,.str r,.str m,.int .i64 d,.sl s.length 5 (Ex.exG s)]]))))) (.leaf (.ret [.int .i64 c] [.box [.int .u8 k,.str r,.str m,.int .i64 d,.sl s.length 5 (Ex.exG s)]]))) (by kernel_rfl) ?_
  simp only [Tree.holds,zd,inR,lo,hi,Int.toNat_natCast]
  refine⟨fun hlt=> ?_,fun hge=> ?_⟩
  ·have hlt:i<s.length:=by have:=of_decide_eq_true hlt; omega
   have hg:=Ex.qg hlt
   have ht:=Ex.ki s i hlt
   have hle2:=Ex.wI s (i+1)
   refine⟨by omega,fun _=>⟨s.getD i Ex.nil,⟨wH rfl rfl rfl rfl rfl (Ex.zA _),by omega,by omega⟩,⟨_,rfl⟩,?_⟩⟩
   rintro _ rfl
   refine⟨by omega,fun _=>⟨by omega,fun _=> ?_⟩⟩
   rw [if_pos trivial]
   refine⟨⟨i+1,hlt⟩,by show s.length - (i+1)<s.length - i; omega,?_,by simp [boxE,Ex.exS,za],by kernel_rfl,Nat.zero_le _⟩
   simp [SSr,ht]; omega
  ·have hge:i=s.length:=by have:=of_decide_eq_false hge; omega
   subst hge
   rw [List.take_length] at hc
   rw [hc] at hq
   exact RetR.scal hq rfl (by simp [resV])
theorem J3:zc Tryz.prog 77 uD:=zR Ex.size Yy
noncomputable def K32:List Go.Sx.Item:=[.code (Tryz.f32.body.getD .skip)]
noncomputable def K33:List Go.Sx.Item:=[.code (Tryz.f33.body.getD .skip)]
def G1c(g:Nat)(C:Ctr):Nat→Option Ctr:=fun f=>if f=g then some C else none
theorem qj{g:Nat}{C:Ctr}(h:zc Tryz.prog g C):∀ f c,G1c g C f=some c→zc Tryz.prog f c:=by
 intro f c hf
 simp only [G1c] at hf
 split at hf
 ·rename_i hg; subst hg; cases hf; exact h
 ·cases hf
def zdu(n:Nat):Ctr:=ctrP true (fun p:Ex×Nat×Nat=>[p.1.exA,.int .i64 (p.2.1:Int),.int .i64 (p.2.2:Int)]) (fun p=>p.1.size<n∧p.2.1<2^40∧p.2.2<2^40)
 (fun p (r:Nat×Bool)=>1≤r.1∧r.1≤p.2.1+1∧(r.2=true→r.1≤p.2.1→r.1=p.1.size)) (fun _ (r:Nat×Bool)=>(.tup [.int .i64 (r.1:Int),.bool r.2],[]))
def SCn(limit deep m i:Nat):KV:=[(1,.int .i64 (limit:Int)),(2,.int .i64 (deep:Int)),(3,.ptr 0 0),(8,.int .i64 (m:Int)),(9,.int .i64 (i:Int)),(20,.undef),(21,.undef),(22,.undef)]
theorem Um(n:Nat)(ih:zc Tryz.prog 32 (zdu n)):zc Tryz.prog 32 (zdu (n+1)):=by
 refine zf (fn:=Tryz.f32) (c:=Tryz.f32.body.getD .skip) rfl rfl rfl fun p hp O w0 Q hq=> ?_
 obtain⟨x,limit,deep⟩:=p
 obtain⟨hxn,hli,hde⟩:=hp
 simp only at hxn hli hde hq
 rw [Ex.size_eq] at hxn hq
 obtain⟨k,r,m,d,s⟩:=x
 simp only [Ex.sub] at hxn hq
 refine zb.run hmix (qj ih) [1,2,3,8,9,20,21,22] 400 (T:=.ite (decide ((↑deep:Int)=0)) (.leaf (.ret [.int .i64 1,.bool false] [.box [.int .u8 k,.str r,.str m,.int .i64 d,.sl s.length 5 (Ex.exG s)]])) (.leaf (.loop (Prod.fst (lps K32 0)) (Prod.snd (lps K32 0)) [(1,.int .i64 limit),(2,.int .i64 deep),(3,.ptr 0 0),(8,.int .i64 1),(9,.int .i64 0),(20,.undef),(21,.undef),(22,.undef)] [.box [.int .u8 k,.str r,.str m,.int .i64 d,.sl s.length 5 (Ex.exG s)]]))) (by kernel_rfl) ?_
 simp only [Tree.holds,zd]
 refine⟨fun h0=> ?_,fun h0=> ?_⟩
 ·exact RetR.scal (hq (1,false) ⟨Nat.le_refl _,by simp,fun h=>by cases h⟩) rfl (by simp [resV])
 ·have h0:0<deep:=by have:=of_decide_eq_false h0; omega
  refine zb.loop (ι:={q:Nat×Nat // q.1≤limit+1∧q.2<q.1∧q.2≤s.length∧(q.1≤limit→q.1=1+Ex.zo (s.take q.2))}) (fun q=>SCn limit deep q.1.1 q.1.2) (fun _=>boxE k r m d s) (fun q=>s.length - q.1.2) ⟨(1,0),by simp [Ex.zo]⟩ 0 ?_ ?_ (by kernel_rfl)
  ·exact⟨by simp [SCn],by simp [boxE,Ex.exS,za],by kernel_rfl,Nat.zero_le _⟩
  ·rintro⟨⟨c,i⟩,h1,h2,h3,h4⟩
   simp only at h1 h2 h3 h4
   refine zb.run hmix (qj ih) [1,2,3,8,9,20,21,22] 400 (T:=.ite (bif decide ((↑i:Int)<s.length) then decide ((↑c:Int)≤limit) else false) (.side ((0:Int)≤i∧(↑i:Int)<s.length) (.side (inR .i64 ((↑limit:Int) - c)) (.side (inR .i64 ((↑deep:Int) - (1:Int))) (.ex (fun(x:Ex×Nat×Nat)=>eqL [AV.agg [AV.int .u8 (Ex.kind (s.getD (↑i:Int).toNat Ex.nil)),AV.str (Ex.rat (s.getD (↑i:Int).toNat Ex.nil)),AV.str (Ex.name (s.getD (↑i:Int).toNat Ex.nil)),AV.int .i64 (Ex.date (s.getD (↑i:Int).toNat Ex.nil)),AV.sl (List.length (Ex.sub (s.getD (↑i:Int).toNat Ex.nil))) 5 (Ex.deep (s.getD (↑i:Int).toNat Ex.nil))],AV.int .i64 ((↑limit:Int) - c),AV.int .i64 ((↑deep:Int) - (1:Int))] [AV.agg [AV.int .u8 x.1.kind,AV.str x.1.rat,AV.str x.1.name,AV.int .i64 x.1.date,AV.sl x.1.sub.length 5 (Ex.exG x.1.sub)],AV.int .i64 x.2.1,AV.int .i64 x.2.2]∧Ex.size x.1<n∧x.2.1<1099511627776∧x.2.2<1099511627776) fun n=>.all (fun(r:Nat×Bool)=>1≤r.1∧r.1≤n.2.1+1∧(r.2=true→r.1≤n.2.1→r.1=Ex.size n.1)) fun n=>.ite (!Prod.snd n) (.leaf (.ret [.int .i64 c,.bool false] [.box [.int .u8 k,.str r,.str m,.int .i64 d,.sl s.length 5 (Ex.exG s)]])) (.side (inR .i64 ((↑c:Int)+n.1)) (.side (inR .i64 ((↑i:Int)+(1:Int))) (.leaf (.back 0 [(1,.int .i64 limit),(2,.int .i64 deep),(3,.ptr 0 0),(8,.int .i64 ((↑c:Int)+n.1)),(9,.int .i64 ((↑i:Int)+(1:Int))),(20,.undef),(21,.undef),(22,.undef)] [.box [.int .u8 k,.str r,.str m,.int .i64 d,.sl s.length 5 (Ex.exG s)]])))))))) (.leaf (.ret [.int .i64 c,.bool true] [.box [.int .u8 k,.str r,.str m,.int .i64 d,.sl s.length 5 (Ex.exG s)]]))) (by kernel_rfl) ?_
   simp only [Tree.holds,zd,inR,lo,hi,Int.toNat_natCast]
   refine⟨fun hlt=> ?_,fun hge=> ?_⟩
   ·have hlt1:i<s.length∧c≤limit:=by
     by_cases g1:i<s.length
     ·by_cases g2:c≤limit
      ·exact⟨g1,g2⟩
      ·rw [decide_eq_false (show ¬ (c:Int)≤limit by omega)] at hlt
       cases hx:decide ((i:Int)<s.length)<;>rw [hx] at hlt<;>cases hlt
     ·rw [decide_eq_false (show ¬ (i:Int)<s.length by omega)] at hlt
      cases hlt
    obtain⟨hlt,hcl⟩:=hlt1
    have hg:=Ex.qg hlt
    have ht:=Ex.ki s i hlt
    have h4:=h4 hcl
    iterate 3 refine⟨by omega,fun _=> ?_⟩
    refine⟨(s.getD i Ex.nil,limit - c,deep - 1),⟨?_,by show(s.getD i Ex.nil).size<n; omega,by show limit - c<2^40; omega,by show deep - 1<2^40; omega⟩,⟨(1,false),Nat.le_refl _,by simp,fun h=>by cases h⟩,?_⟩
    ·have e1:(limit:Int) - c=((limit - c:Nat):Int):=by omega
     have e2:(deep:Int) - 1=((deep - 1:Nat):Int):=by omega
     rw [e1,e2]
     exact⟨⟨⟨rfl,rfl⟩,rfl,rfl,⟨rfl,rfl⟩,⟨rfl,rfl,Ex.zA _⟩,trivial⟩,⟨rfl,rfl⟩,⟨rfl,rfl⟩,trivial⟩
    rintro⟨m',b⟩ ⟨g1,g2,g3⟩
    simp only at g1 g2 g3
    refine⟨fun hb=> ?_,fun hb=> ?_⟩
    ·exact RetR.scal (hq (c,false) ⟨by show 1≤c; omega,by show c≤limit+1; omega,fun h=>by cases h⟩) rfl (by simp [resV])
    ·have hb:b=true:=by simpa using hb
     refine⟨by omega,fun _=>⟨by omega,fun _=> ?_⟩⟩
     rw [if_pos trivial]
     refine⟨⟨(c+m',i+1),?_,?_,hlt,?_⟩,by show s.length - (i+1)<s.length - i; omega,?_,by simp [boxE,Ex.exS,za],by kernel_rfl,Nat.zero_le _⟩
     ·show c+m'≤limit+1; omega
     ·show i+1<c+m'; omega
     ·show c+m'≤limit→c+m'=1+Ex.zo (s.take (i+1))
      intro hle
      have:=g3 hb (by omega)
      omega
     ·simp [SCn]
   ·refine RetR.scal (hq (c,true) ⟨by show 1≤c; omega,h1,fun _ hle=> ?_⟩) rfl (by simp [resV])
    simp only at hle
    have hge:i=s.length:=by
     by_cases g1:i<s.length
     ·rw [decide_eq_true (show(i:Int)<s.length by omega),decide_eq_true (show(c:Int)≤limit by omega)] at hge
      cases hge
     ·omega
    have h4:=h4 hle
    rw [hge,List.take_length] at h4
    exact h4
theorem zes:zc Tryz.prog 32 (ctrP true (fun p:Ex×Nat×Nat=>[p.1.exA,.int .i64 (p.2.1:Int),.int .i64 (p.2.2:Int)]) (fun p=>p.2.1<2^40∧p.2.2<2^40)
 (fun p (r:Nat×Bool)=>1≤r.1∧r.1≤p.2.1+1∧(r.2=true→r.1≤p.2.1→r.1=p.1.size)) (fun _ (r:Nat×Bool)=>(.tup [.int .i64 (r.1:Int),.bool r.2],[]))):=zR (fun p=>p.1.size) Um
def zdz(n:Nat):Ctr:=ctrP true (fun x:Ex=>[x.exA]) (fun x=>x.size<n∧x.size<2^60∧x.zq<2^60) (fun x r=>r=x.zq) (fun _ (r:Nat)=>(.int .i64 (r:Int),[]))
def SBy(c i:Nat):KV:=[(1,.ptr 0 0),(3,.int .i64 (c:Int)),(4,.int .i64 (i:Int))]
theorem YE(n:Nat)(ih:zc Tryz.prog 33 (zdz n)):zc Tryz.prog 33 (zdz (n+1)):=by
 refine zf (fn:=Tryz.f33) (c:=Tryz.f33.body.getD .skip) rfl rfl rfl fun x hx O w0 Q hq=> ?_
 replace hq:=hq _ rfl
 obtain⟨hxn,hxs,hxb⟩:=hx
 rw [Ex.Zu] at hq hxb
 rw [Ex.size_eq] at hxn hxs
 obtain⟨k,r,m,d,s⟩:=x
 simp only [Ex.sub,Ex.rat,Ex.name] at hxn hxs hq hxb
 refine zb.run hmix (qj ih) [1,3,4] 400 (T:=.side (inR .i64 ((↑r.length:Int)+m.length)) (.leaf (.loop (Prod.fst (lps K33 0)) (Prod.snd (lps K33 0)) [(1,.ptr 0 0),(3,.int .i64 ((↑r.length:Int)+m.length)),(4,.int .i64 0)] [.box [.int .u8 k,.str r,.str m,.int .i64 d,.sl s.length 5 (Ex.exG s)]]))) (by kernel_rfl) ?_
 simp only [Tree.holds,zd,inR,lo,hi,Int.toNat_natCast]
 have hlen:=Ex.zy s
 refine⟨by omega,fun _=> ?_⟩
 refine zb.loop (ι:={i:Nat // i≤s.length}) (fun i=>SBy (r.length+m.length+Ex.qc (s.take i.1)) i.1) (fun _=>boxE k r m d s) (fun i=>s.length - i.1) ⟨0,Nat.zero_le _⟩ 0 ?_ ?_ (by kernel_rfl)
 ·exact⟨by simp [SBy,Ex.qc],by simp [boxE,Ex.exS,za],by kernel_rfl,Nat.zero_le _⟩
 ·rintro⟨i,hil⟩
  have hle:=Ex.x8 s i
  obtain⟨c,hc⟩:∃ c,r.length+m.length+Ex.qc (s.take i)=c:=⟨_,rfl⟩
  simp only [hc]
  refine zb.run hmix (qj ih) [1,3,4] 400 (T:=.ite (decide ((↑i:Int)<s.length)) (.side ((0:Int)≤i∧(↑i:Int)<s.length) (.ex (fun(x:Ex)=>eqL [AV.agg [AV.int .u8 (Ex.kind (s.getD (↑i:Int).toNat Ex.nil)),AV.str (Ex.rat (s.getD (↑i:Int).toNat Ex.nil)),AV.str (Ex.name (s.getD (↑i:Int).toNat Ex.nil)),AV.int .i64 (Ex.date (s.getD (↑i:Int).toNat Ex.nil)),AV.sl (List.length (Ex.sub (s.getD (↑i:Int).toNat Ex.nil))) 5 (Ex.deep (s.getD (↑i:Int).toNat Ex.nil))]] [AV.agg [AV.int .u8 x.kind,AV.str x.rat,AV.str x.name,AV.int .i64 x.date,AV.sl x.sub.length 5 (Ex.exG x.sub)]]∧Ex.size x<n∧Ex.size x<1152921504606846976∧Ex.zq x<1152921504606846976) fun n=>.all (fun(r:Nat)=>r=Ex.zq n) fun n=>.side (inR .i64 ((↑c:Int)+n)) (.side (inR .i64 ((↑i:Int)+(1:Int))) (.leaf (.back 0 [(1,.ptr 0 0),(3,.int .i64 ((↑c:Int)+n)),(4,.int .i64 ((↑i:Int)+(1:Int)))] [.box [.int .u8 k,.str r,.str m,.int .i64 d,.sl s.length 5 (Ex.exG s)]]))))) (.leaf (.ret [.int .i64 c] [.box [.int .u8 k,.str r,.str m,.int .i64 d,.sl s.length 5 (Ex.exG s)]]))) (by kernel_rfl) ?_
  simp only [Tree.holds,zd,inR,lo,hi,Int.toNat_natCast]
  refine⟨fun hlt=> ?_,fun hge=> ?_⟩
  ·have hlt:i<s.length:=by have:=of_decide_eq_true hlt; omega
   have hg:=Ex.qg hlt
   have hg2:=Ex.yP hlt
   have ht:=Ex.K6 s i hlt
   have hle2:=Ex.x8 s (i+1)
   refine⟨by omega,fun _=>⟨s.getD i Ex.nil,⟨wH rfl rfl rfl rfl rfl (Ex.zA _),by omega,by omega,by omega⟩,⟨_,rfl⟩,?_⟩⟩
   rintro _ rfl
   refine⟨by omega,fun _=>⟨by omega,fun _=> ?_⟩⟩
   rw [if_pos trivial]
   refine⟨⟨i+1,hlt⟩,by show s.length - (i+1)<s.length - i; omega,?_,by simp [boxE,Ex.exS,za],by kernel_rfl,Nat.zero_le _⟩
   simp [SBy,ht]; omega
  ·have hge:i=s.length:=by have:=of_decide_eq_false hge; omega
   subst hge
   rw [List.take_length] at hc
   rw [hc] at hq
   exact RetR.scal hq rfl (by simp [resV])
theorem zfg:zc Tryz.prog 33 (ctrP true (fun x:Ex=>[x.exA]) (fun x=>x.size<2^60∧x.zq<2^60) (fun x r=>r=x.zq) (fun _ (r:Nat)=>(.int .i64 (r:Int),[]))):=zR Ex.size YE
noncomputable def K79:List Go.Sx.Item:=[.code (Tryz.f79.body.getD .skip)]
noncomputable def K84:List Go.Sx.Item:=[.code (Tryz.f84.body.getD .skip)]
def zdr(n:Nat):Ctr:=ctrP true (fun p:Ex×Nat=>[p.1.exA,.int .i64 (p.2:Int)]) (fun p=>p.1.size<n∧p.1.size<2^62∧p.2<2^40) (fun p r=>r=min p.1.depth (p.2+1)) (fun _ (r:Nat)=>(.int .i64 (r:Int),[]))
def SDp(s:List Ex)(limit c i:Nat):KV:=[(1,.int .i64 (limit:Int)),(5,.int .i64 (c:Int)),(11,Ex.exS s),(12,.int .i64 (s.length:Int)),(13,.int .i64 (i:Int))]
theorem YC(n:Nat)(ih:zc Tryz.prog 79 (zdr n)):zc Tryz.prog 79 (zdr (n+1)):=by
 refine zf (fn:=Tryz.f79) (c:=Tryz.f79.body.getD .skip) rfl rfl rfl fun p hp O w0 Q hq=> ?_
 obtain⟨x,limit⟩:=p
 obtain⟨hxn,hxs,hli⟩:=hp
 replace hq:=hq _ rfl
 simp only at hxn hxs hli hq
 have hds:=Ex.wJ x
 have hdp:=Ex.zd7 x
 rw [Ex.wZ] at hq hds hdp
 rw [Ex.size_eq] at hxn hxs hds
 obtain⟨k,r,m,d,s⟩:=x
 simp only [Ex.sub] at hxn hxs hq hds hdp
 have hlen:=Ex.zy s
 refine zb.run hmix (qj ih) [1,5,11,12,13] 400 (T:=.ite (decide ((0:Int)<limit)) (.leaf (.loop (Prod.fst (lps K79 0)) (Prod.snd (lps K79 0)) [(1,.int .i64 limit),(5,.int .i64 0),(11,.sl s.length 5 (Ex.exG s)),(12,.int .i64 s.length),(13,.int .i64 0)] [.box [.int .u8 k,.str r,.str m,.int .i64 d,.sl s.length 5 (Ex.exG s)]])) (.side (inR .i64 (1:Int)) (.leaf (.ret [.int .i64 1] [.box [.int .u8 k,.str r,.str m,.int .i64 d,.sl s.length 5 (Ex.exG s)]])))) (by kernel_rfl) ?_
 simp only [Tree.holds,zd,inR,lo,hi,Int.toNat_natCast]
 refine⟨fun hl=> ?_,fun hl=> ?_⟩
 ·have hl:0<limit:=by have:=of_decide_eq_true hl; omega
  refine zb.loop (ι:={i:Nat // i≤s.length}) (fun i=>SDp s limit (min (Ex.zw (s.take i.1)) limit) i.1) (fun _=>[]) (fun i=>s.length - i.1) ⟨0,Nat.zero_le _⟩ 0 ?_ ?_ (by kernel_rfl)
  ·exact⟨by simp [SDp,Ex.zw,Ex.exS,za],by simp,by kernel_rfl,Nat.zero_le _⟩
  ·rintro⟨i,hil⟩
   obtain⟨c,hc⟩:∃ c,min (Ex.zw (s.take i)) limit=c:=⟨_,rfl⟩
   simp only [hc]
   refine zb.run hmix (qj ih) [1,5,11,12,13] 400 (T:=.ite (decide ((↑i:Int)<s.length)) (.side ((0:Int)≤i∧(↑i:Int)<s.length) (.side (inR .i64 ((↑limit:Int) - (1:Int))) (.ex (fun(x:Ex×Nat)=>eqL [AV.agg [AV.int .u8 (Ex.kind (s.getD (↑i:Int).toNat Ex.nil)),AV.str (Ex.rat (s.getD (↑i:Int).toNat Ex.nil)),AV.str (Ex.name (s.getD (↑i:Int).toNat Ex.nil)),AV.int .i64 (Ex.date (s.getD (↑i:Int).toNat Ex.nil)),AV.sl (List.length (Ex.sub (s.getD (↑i:Int).toNat Ex.nil))) 5 (Ex.deep (s.getD (↑i:Int).toNat Ex.nil))],AV.int .i64 ((↑limit:Int) - (1:Int))] [AV.agg [AV.int .u8 x.1.kind,AV.str x.1.rat,AV.str x.1.name,AV.int .i64 x.1.date,AV.sl x.1.sub.length 5 (Ex.exG x.1.sub)],AV.int .i64 x.2]∧Ex.size x.1<n∧Ex.size x.1<4611686018427387904∧x.2<1099511627776) fun n=>.all (fun(r:Nat)=>r=min n.1.depth (n.2+1)) fun n=>.side (inR .i64 ((↑i:Int)+(1:Int))) (.leaf (.back 0 [(1,.int .i64 limit),(5,.int .i64 (max (↑c:Int) (↑n:Int))),(11,.sl s.length 5 (Ex.exG s)),(12,.int .i64 s.length),(13,.int .i64 ((↑i:Int)+(1:Int)))] [.box [.int .u8 (Ex.kind (s.getD (↑i:Int).toNat Ex.nil)),.str (Ex.rat (s.getD (↑i:Int).toNat Ex.nil)),.str (Ex.name (s.getD (↑i:Int).toNat Ex.nil)),.int .i64 (Ex.date (s.getD (↑i:Int).toNat Ex.nil)),.sl (List.length (Ex.sub (s.getD (↑i:Int).toNat Ex.nil))) 5 (Ex.deep (s.getD (↑i:Int).toNat Ex.nil))]]))))) (.side (inR .i64 ((↑c:Int)+(1:Int))) (.leaf (.ret [.int .i64 ((↑c:Int)+(1:Int))] [])))) (by kernel_rfl) ?_
   simp only [Tree.holds,zd,inR,lo,hi,Int.toNat_natCast]
   refine⟨fun hlt=> ?_,fun hge=> ?_⟩
   ·have hlt:i<s.length:=by have:=of_decide_eq_true hlt; omega
    have hg:=Ex.qg hlt
    have ht:=Ex.jr s i hlt
    refine⟨by omega,fun _=>⟨by omega,fun _=>⟨(s.getD i Ex.nil,limit - 1),⟨?_,by show(s.getD i Ex.nil).size<n; omega,by show(s.getD i Ex.nil).size<2^62; omega,by show limit - 1<2^40; omega⟩,⟨_,rfl⟩,?_⟩⟩⟩
    ·have e1:(limit:Int) - 1=((limit - 1:Nat):Int):=by omega
     rw [e1]
     exact⟨⟨⟨rfl,rfl⟩,rfl,rfl,⟨rfl,rfl⟩,⟨rfl,rfl,Ex.zA _⟩,trivial⟩,⟨rfl,rfl⟩,trivial⟩
    rintro _ rfl
    refine⟨by omega,fun _=> ?_⟩
    rw [if_pos trivial]
    refine⟨⟨i+1,hlt⟩,by show s.length - (i+1)<s.length - i; omega,?_,by simp,by kernel_rfl,Nat.zero_le _⟩
    simp [SDp,ht,Ex.exS,za]; omega
   ·have hge:i=s.length:=by have:=of_decide_eq_false hge; omega
    subst hge
    rw [List.take_length] at hc
    refine⟨by omega,fun _=> ?_⟩
    exact RetR.scal hq rfl (by simp [resV]; omega)
 ·have hl:limit=0:=by have:=of_decide_eq_false hl; omega
  refine⟨by decide,fun _=> ?_⟩
  exact RetR.scal hq rfl (by simp [resV]; omega)
theorem zha:zc Tryz.prog 79 (ctrP true (fun p:Ex×Nat=>[p.1.exA,.int .i64 (p.2:Int)]) (fun p=>p.1.size<2^62∧p.2<2^40) (fun p r=>r=min p.1.depth (p.2+1)) (fun _ (r:Nat)=>(.int .i64 (r:Int),[]))):=zR (fun p=>p.1.size) YC
def za0(n:Nat):Ctr:=ctrP true (fun x:Ex=>[x.exA]) (fun x=>x.size<n∧x.size<2^62) (fun x r=>r=x.depth) (fun _ (r:Nat)=>(.int .i64 (r:Int),[]))
def SDr(c i:Nat):KV:=[(1,.ptr 0 0),(3,.int .i64 (c:Int)),(4,.int .i64 (i:Int))]
theorem Xr(n:Nat)(ih:zc Tryz.prog 84 (za0 n)):zc Tryz.prog 84 (za0 (n+1)):=by
 refine zf (fn:=Tryz.f84) (c:=Tryz.f84.body.getD .skip) rfl rfl rfl fun x hx O w0 Q hq=> ?_
 replace hq:=hq _ rfl
 obtain⟨hxn,hxs⟩:=hx
 have hds:=Ex.wJ x
 rw [Ex.wZ] at hq hds
 rw [Ex.size_eq] at hxn hxs hds
 obtain⟨k,r,m,d,s⟩:=x
 simp only [Ex.sub] at hxn hxs hq hds
 refine zb.run hmix (qj ih) [1,3,4] 400 (T:=.leaf (.loop (Prod.fst (lps K84 0)) (Prod.snd (lps K84 0)) [(1,.ptr 0 0),(3,.int .i64 0),(4,.int .i64 0)] [.box [.int .u8 k,.str r,.str m,.int .i64 d,.sl s.length 5 (Ex.exG s)]])) (by kernel_rfl) ?_
 simp only [Tree.holds,zd]
 have hlen:=Ex.zy s
 refine zb.loop (ι:={i:Nat // i≤s.length}) (fun i=>SDr (Ex.zw (s.take i.1)) i.1) (fun _=>boxE k r m d s) (fun i=>s.length - i.1) ⟨0,Nat.zero_le _⟩ 0 ?_ ?_ (by kernel_rfl)
 ·exact⟨by simp [SDr,Ex.zw],by simp [boxE,Ex.exS,za],by kernel_rfl,Nat.zero_le _⟩
 ·rintro⟨i,hil⟩
  obtain⟨c,hc⟩:∃ c,Ex.zw (s.take i)=c:=⟨_,rfl⟩
  simp only [hc]
  refine zb.run hmix (qj ih) [1,3,4] 400 (T:=.ite (decide ((↑i:Int)<s.length)) (.side ((0:Int)≤i∧(↑i:Int)<s.length) (.ex (fun(x:Ex)=>eqL [AV.agg [AV.int .u8 (Ex.kind (s.getD (↑i:Int).toNat Ex.nil)),AV.str (Ex.rat (s.getD (↑i:Int).toNat Ex.nil)),AV.str (Ex.name (s.getD (↑i:Int).toNat Ex.nil)),AV.int .i64 (Ex.date (s.getD (↑i:Int).toNat Ex.nil)),AV.sl (List.length (Ex.sub (s.getD (↑i:Int).toNat Ex.nil))) 5 (Ex.deep (s.getD (↑i:Int).toNat Ex.nil))]] [AV.agg [AV.int .u8 x.kind,AV.str x.rat,AV.str x.name,AV.int .i64 x.date,AV.sl x.sub.length 5 (Ex.exG x.sub)]]∧Ex.size x<n∧Ex.size x<4611686018427387904) fun n=>.all (fun(r:Nat)=>r=Ex.depth n) fun n=>.side (inR .i64 ((↑i:Int)+(1:Int))) (.leaf (.back 0 [(1,.ptr 0 0),(3,.int .i64 (max (↑c:Int) (↑n:Int))),(4,.int .i64 ((↑i:Int)+(1:Int)))] [.box [.int .u8 k,.str r,.str m,.int .i64 d,.sl s.length 5 (Ex.exG s)]])))) (.side (inR .i64 ((↑c:Int)+(1:Int))) (.leaf (.ret [.int .i64 ((↑c:Int)+(1:Int))] [.box [.int .u8 k,.str r,.str m,.int .i64 d,.sl s.length 5 (Ex.exG s)]])))) (by kernel_rfl) ?_
  simp only [Tree.holds,zd,inR,lo,hi,Int.toNat_natCast]
  refine⟨fun hlt=> ?_,fun hge=> ?_⟩
  ·have hlt:i<s.length:=by have:=of_decide_eq_true hlt; omega
   have hg:=Ex.qg hlt
   have ht:=Ex.jr s i hlt
   refine⟨by omega,fun _=>⟨s.getD i Ex.nil,⟨wH rfl rfl rfl rfl rfl (Ex.zA _),by omega,by omega⟩,⟨_,rfl⟩,?_⟩⟩
   rintro _ rfl
   refine⟨by omega,fun _=> ?_⟩
   rw [if_pos trivial]
   refine⟨⟨i+1,hlt⟩,by show s.length - (i+1)<s.length - i; omega,?_,by simp [boxE,Ex.exS,za],by kernel_rfl,Nat.zero_le _⟩
   simp [SDr,ht,hc]; omega
  ·have hge:i=s.length:=by have:=of_decide_eq_false hge; omega
   subst hge
   rw [List.take_length] at hc
   subst hc
   refine⟨by omega,fun _=> ?_⟩
   exact RetR.scal hq rfl (by simp [resV]; omega)
theorem WC:zc Tryz.prog 84 (ctrP true (fun x:Ex=>[x.exA]) (fun x=>x.size<2^62) (fun x r=>r=x.depth) (fun _ (r:Nat)=>(.int .i64 (r:Int),[]))):=zR Ex.size Xr
noncomputable def K80:List Go.Sx.Item:=[.code (Tryz.f80.body.getD .skip)]
def zeo:Ctr:=ctrP true (fun p:Ex×Nat×Nat=>[p.1.exA,.int .i64 (p.2.1:Int),.int .i64 (p.2.2:Int)]) (fun p=>p.2.1<2^40∧p.2.2<2^40)
 (fun p (r:Nat×Bool)=>1≤r.1∧r.1≤p.2.1+1∧(r.2=true→r.1≤p.2.1→r.1=p.1.size)) (fun _ (r:Nat×Bool)=>(.tup [.int .i64 (r.1:Int),.bool r.2],[]))
def zey:Ctr:=ctrP true (fun x:Ex=>[x.exA]) (fun x=>x.size<2^60∧x.zq<2^60) (fun x r=>r=x.zq) (fun _ (r:Nat)=>(.int .i64 (r:Int),[]))
def Ut:Ctr:=ctrP true (fun x:Ex=>[x.exA]) (fun x=>x.thin) (fun x r=>r=false→x.size≤600∧x.zq≤3000) (fun _ (r:Bool)=>(.bool r,[]))
noncomputable def GGt:Nat→Option Ctr:=fun f=>if f=32 then some (zeo) else if f=33 then some (zey) else none
theorem zmd:∀ g c,GGt g=some c→zc Tryz.prog g c:=okIf zes (okIf zfg (zp))
theorem Ws:zc Tryz.prog 7 Ut:=by
 refine zf (fn:=Tryz.f7) (c:=Tryz.f7.body.getD .skip) rfl rfl rfl fun x hx O w0 Q hq=> ?_
 have hb:=Ex.Wu x hx
 obtain⟨k,r,m,d,s⟩:=x
 refine zb.run hmix zmd [] 400 (T:=.ex (fun(x:Ex×Nat×Nat)=>eqL [AV.agg [AV.int .u8 k,AV.str r,AV.str m,AV.int .i64 d,AV.sl s.length 5 (Ex.exG s)],AV.int .i64 600,AV.int .i64 100] [AV.agg [AV.int .u8 x.1.kind,AV.str x.1.rat,AV.str x.1.name,AV.int .i64 x.1.date,AV.sl x.1.sub.length 5 (Ex.exG x.1.sub)],AV.int .i64 x.2.1,AV.int .i64 x.2.2]∧x.2.1<1099511627776∧x.2.2<1099511627776) fun n=>.all (fun(r:Nat×Bool)=>1≤r.1∧r.1≤n.2.1+1∧(r.2=true→r.1≤n.2.1→r.1=Ex.size n.1)) fun n=>.ex (fun(x:Ex)=>(bif !Prod.snd n then true else decide ((600:Int)<n.1))=false→eqL [AV.agg [AV.int .u8 k,AV.str r,AV.str m,AV.int .i64 d,AV.sl s.length 5 (Ex.exG s)]] [AV.agg [AV.int .u8 x.kind,AV.str x.rat,AV.str x.name,AV.int .i64 x.date,AV.sl x.sub.length 5 (Ex.exG x.sub)]]∧Ex.size x<1152921504606846976∧Ex.zq x<1152921504606846976) fun n_1=>.all (fun(x:Nat)=>(bif !Prod.snd n then true else decide ((600:Int)<n.1))=false→x=Ex.zq n_1) fun n_2=>.leaf (.ret [.bool (bif bif !Prod.snd n then true else decide ((600:Int)<n.1) then true else decide ((3000:Int)<n_2))] [.box [.int .u8 k,.str r,.str m,.int .i64 d,.sl s.length 5 (Ex.exG s)]])) (by kernel_rfl) ?_
 simp only [Tree.holds,zd,inR,lo,hi,Int.toNat_natCast]
 refine⟨(.mk k r m d s,600,100),⟨⟨⟨⟨rfl,rfl⟩,rfl,rfl,⟨rfl,rfl⟩,⟨rfl,rfl,za _ _ _⟩,trivial⟩,⟨rfl,rfl⟩,⟨rfl,rfl⟩,trivial⟩,by show 600<1099511627776; omega,by show 100<1099511627776; omega⟩,⟨(1,false),Nat.le_refl _,by show 1≤600+1; omega,fun h=>by cases h⟩,?_⟩
 rintro⟨c,b⟩ ⟨g1,g2,g3⟩
 simp only at g1 g2 g3
 have hsz:(bif !b then true else decide (600<(c:Int)))=false→(Ex.mk k r m d s).size≤600:=by
  intro h
  cases b with
  | false=>cases h
  | true=>
   have h:¬ 600<(c:Int):=of_decide_eq_false h
   have:=g3 rfl (by omega)
   omega
 refine⟨.mk k r m d s,fun h=>⟨⟨⟨⟨rfl,rfl⟩,rfl,rfl,⟨rfl,rfl⟩,⟨rfl,rfl,za _ _ _⟩,trivial⟩,trivial⟩,by have:=hsz h; omega,by have:=hsz h; omega⟩,⟨_,fun _=>rfl⟩,?_⟩
 intro c2 hc2
 refine RetR.scal (hq (bif (bif !b then true else decide (600<(c:Int))) then true else decide (3000<(c2:Int))) fun h=> ?_) rfl (by simp [resV])
 cases ht:(bif !b then true else decide (600<(c:Int))) with
 | true=>rw [ht] at h; cases h
 | false=>
  rw [ht] at h
  have h2:=hc2 ht
  have h:¬ 3000<(c2:Int):=of_decide_eq_false h
  exact⟨hsz ht,by omega⟩
def zl8:Ctr:=ctrP true (fun x:Ex=>[x.exA]) (fun x=>x.rat.length<2^40∧x.name.length<2^40) (fun x r=>r=bif qw x.kind x.rat x.name x.date x.sub.length then 1 else 0) (fun _ (r:Int)=>(.int .u8 r,[]))
noncomputable def GLf:Nat→Option Ctr:=fun f=>if f=50 then some (Qo) else if f=49 then some (yC) else if f=67 then some (xp) else none
theorem zm9:∀ g c,GLf g=some c→zc Tryz.prog g c:=okIf Z7 (okIf VE (okIf zca (zp)))
theorem zkf:zc Tryz.prog 123 zl8:=by
 refine zf (fn:=Tryz.f123) (c:=Tryz.f123.body.getD .skip) rfl rfl rfl fun x hx O w0 Q hq=> ?_
 obtain⟨k,r,m,d,s⟩:=x
 replace hq:=hq _ rfl
 obtain⟨h1,h2⟩:=hx
 simp only [Ex.rat,Ex.name,Ex.kind,Ex.date,Ex.sub] at h1 h2 hq
 refine zb.run hmix zm9 [] 400 (T:=.ite (decide (k=1)) (.ex (fun(x:List UInt8)=>decide ((↑s.length:Int)=0)=true→eqL [AV.str r] [AV.str x]∧x.length<4611686018427387904) fun n=>.all (fun(x:Int)=>decide ((↑s.length:Int)=0)=true→x=errR n) fun n=>.ite (!bif bif bif decide ((↑s.length:Int)=0) then decide (n=0) else false then decide (m=#[].toList) else false then decide (d=0) else false) (.leaf (.ret [.int .u8 0] [.box [.int .u8 k,.str r,.str m,.int .i64 d,.sl s.length 5 (Ex.exG s)]])) (.leaf (.ret [.int .u8 1] [.box [.int .u8 k,.str r,.str m,.int .i64 d,.sl s.length 5 (Ex.exG s)]]))) (.ite (decide (k=2)) (.ex (fun(x:List UInt8)=>(bif decide ((↑s.length:Int)=0) then decide (r=#[].toList) else false)=true→eqL [AV.str m] [AV.str x]∧x.length<4611686018427387904) fun n=>.all (fun(x:Bool)=>(bif decide ((↑s.length:Int)=0) then decide (r=#[].toList) else false)=true→x=zN n) fun n=>.ex (fun(x:Int)=>(bif bif decide ((↑s.length:Int)=0) then decide (r=#[].toList) else false then n else false)=true→eqL [AV.int .i64 d] [AV.int .i64 x]∧True) fun n_1=>.all (fun(x:Bool)=>(bif bif decide ((↑s.length:Int)=0) then decide (r=#[].toList) else false then n else false)=true→x=dayB n_1) fun n_2=>.ite (!bif bif bif decide ((↑s.length:Int)=0) then decide (r=#[].toList) else false then n else false then n_2 else false) (.leaf (.ret [.int .u8 0] [.box [.int .u8 k,.str r,.str m,.int .i64 d,.sl s.length 5 (Ex.exG s)]])) (.leaf (.ret [.int .u8 1] [.box [.int .u8 k,.str r,.str m,.int .i64 d,.sl s.length 5 (Ex.exG s)]]))) (.ite (decide (k=3)) (.ex (fun(x:List UInt8)=>(bif decide ((↑s.length:Int)=0) then decide (r=#[].toList) else false)=true→eqL [AV.str m] [AV.str x]∧x.length<4611686018427387904) fun n=>.all (fun(x:Bool)=>(bif decide ((↑s.length:Int)=0) then decide (r=#[].toList) else false)=true→x=zN n) fun n=>.ite (!bif bif bif decide ((↑s.length:Int)=0) then decide (r=#[].toList) else false then n else false then decide (d=0) else false) (.leaf (.ret [.int .u8 0] [.box [.int .u8 k,.str r,.str m,.int .i64 d,.sl s.length 5 (Ex.exG s)]])) (.leaf (.ret [.int .u8 1] [.box [.int .u8 k,.str r,.str m,.int .i64 d,.sl s.length 5 (Ex.exG s)]]))) (.ite true (.leaf (.ret [.int .u8 0] [.box [.int .u8 k,.str r,.str m,.int .i64 d,.sl s.length 5 (Ex.exG s)]])) (.leaf (.ret [.int .u8 1] [.box [.int .u8 k,.str r,.str m,.int .i64 d,.sl s.length 5 (Ex.exG s)]])))))) (by kernel_rfl) ?_
 simp only [Tree.holds,zd,inR,lo,hi,Int.toNat_natCast]
 have fin:∀ T:Bool,T=qw k r m d s.length→((!T)=true→Q (.int .u8 0,[]))∧((!T)=false→Q (.int .u8 1,[])):=by
  intro T hT
  subst hT
  cases hl:qw k r m d s.length with
  | true=>rw [hl] at hq; exact⟨fun h=>(by cases h),fun _=>hq⟩
  | false=>rw [hl] at hq; exact⟨fun _=>hq,fun h=>(by cases h)⟩
 refine⟨fun hk=> ?_,fun hk=> ?_⟩
 ·have hk:k=1:=of_decide_eq_true hk
  refine⟨r,fun _=>⟨by simp,by omega⟩,⟨_,fun _=>rfl⟩,?_⟩
  intro e he
  have F:=fin (bif bif bif decide ((s.length:Int)=0) then decide (e=0) else false then decide (m=[]) else false then decide (d=0) else false) (by
   by_cases hl:s.length=0
   ·have:=he (by simp [hl])
    subst this
    simp [qw,hk,hl,Bool.and_assoc]
   ·simp [qw,hl])
  exact⟨fun h=>RetR.scal (F.1 h) rfl (by simp [resV]),fun h=>RetR.scal (F.2 h) rfl (by simp [resV])⟩
 ·have hk1:k≠1:=of_decide_eq_false hk
  refine⟨fun hk=> ?_,fun hk=> ?_⟩
  ·have hk:k=2:=of_decide_eq_true hk
   refine⟨m,fun _=>⟨by simp,by omega⟩,⟨_,fun _=>rfl⟩,?_⟩
   intro e he
   refine⟨d,fun _=>⟨by simp,trivial⟩,⟨_,fun _=>rfl⟩,?_⟩
   intro f hf
   have F:=fin (bif bif bif decide ((s.length:Int)=0) then decide (r=[]) else false then e else false then f else false) (by
    by_cases hl:s.length=0
    ·by_cases hr:r=[]
     ·have:=he (by simp [hl,hr])
      subst this
      cases hn:zN m with
      | true=>
       have:=hf (by simp [hl,hr,hn])
       subst this
       simp [qw,hk,hl,hr,hn]
      | false=>simp [qw,hk,hl,hr,hn]
     ·simp [qw,hk,hl,hr]
    ·simp [qw,hl])
   exact⟨fun h=>RetR.scal (F.1 h) rfl (by simp [resV]),fun h=>RetR.scal (F.2 h) rfl (by simp [resV])⟩
  ·have hk2:k≠2:=of_decide_eq_false hk
   refine⟨fun hk=> ?_,fun hk=> ?_⟩
   ·have hk:k=3:=of_decide_eq_true hk
    refine⟨m,fun _=>⟨by simp,by omega⟩,⟨_,fun _=>rfl⟩,?_⟩
    intro e he
    have F:=fin (bif bif bif decide ((s.length:Int)=0) then decide (r=[]) else false then e else false then decide (d=0) else false) (by
     by_cases hl:s.length=0
     ·by_cases hr:r=[]
      ·have:=he (by simp [hl,hr])
       subst this
       simp [qw,hk,hl,hr]
      ·simp [qw,hk,hl,hr]
     ·simp [qw,hl])
    exact⟨fun h=>RetR.scal (F.1 h) rfl (by simp [resV]),fun h=>RetR.scal (F.2 h) rfl (by simp [resV])⟩
   ·have hk3:k≠3:=of_decide_eq_false hk
    have F:=fin false (by simp [qw,hk1,hk2,hk3])
    exact⟨fun h=>RetR.scal (F.1 rfl) rfl (by simp [resV]),fun h=>by cases h⟩
def SSo(s:List Ex)(i:Nat):KV:=[(3,.ptr 1 0),(41,Ex.exS s),(42,.int .i64 (s.length:Int)),(43,.int .i64 (i:Int))]
def HSo(k:Int):Heap:=[.dead,.box [.sl (jG k) 1 fun j _=>.int .u8 (qU k j),.int .u8 (jw k)]]
def zb4(n:Nat):Ctr:=ctrP true (fun x:Ex=>[x.exA]) (fun x=>x.size<n∧x.size<2^60∧x.zq<2^40) (fun x r=>r=x.qn) (fun _ (r:Int)=>(.int .u8 r,[]))
def GSo(n:Nat):Nat→Option Ctr:=fun f=>if f=80 then some (zb4 n) else if f=123 then some zl8 else none
theorem zgy{n:Nat}(h:zc Tryz.prog 80 (zb4 n)):∀ f c,GSo n f=some c→zc Tryz.prog f c:=by
 intro f c hf
 simp only [GSo] at hf
 split at hf
 ·rename_i hg; subst hg; cases hf; exact h
 ·split at hf
  ·rename_i hg; subst hg; cases hf; exact zkf
  ·cases hf
theorem zbw(n:Nat)(ih:zc Tryz.prog 80 (zb4 n)):zc Tryz.prog 80 (zb4 (n+1)):=by
 refine zf (fn:=Tryz.f80) (c:=Tryz.f80.body.getD .skip) rfl rfl rfl fun x hx O w0 Q hq=> ?_
 replace hq:=hq _ rfl
 obtain⟨hxn,hxs,hxb⟩:=hx
 rw [Ex.size_eq] at hxn hxs
 rw [Ex.Zu] at hxb
 rw [Ex.X1] at hq
 obtain⟨k,r,m,d,s⟩:=x
 simp only [Ex.sub,Ex.rat,Ex.name,Ex.kind,Ex.date] at hxn hxs hq hxb
 refine zb.run hmix (zgy ih) [3,41,42,43] 400 (T:=.ite (w5 k) (.ite false (.ex (fun(x:Ex)=>eqL [AV.agg [AV.int .u8 k,AV.str r,AV.str m,AV.int .i64 d,AV.sl s.length 5 (Ex.exG s)]] [AV.agg [AV.int .u8 x.kind,AV.str x.rat,AV.str x.name,AV.int .i64 x.date,AV.sl x.sub.length 5 (Ex.exG x.sub)]]∧x.rat.length<1099511627776∧x.name.length<1099511627776) fun n=>.all (fun(r:Int)=>r=bif qw n.kind n.rat n.name n.date n.sub.length then(1:Int) else(0:Int)) fun n=>.leaf (.ret [.int .u8 n] [.box [.int .u8 k,.str r,.str m,.int .i64 d,.sl s.length 5 (Ex.exG s)],.box [.sl (jG k) 1 fun(j x:Nat)=>.int .u8 (qU k j),.int .u8 (jw k)]])) (.ite (bif bif bif !decide ((↑s.length:Int)=(↑(jG k):Int)) then true else !decide (r=#[].toList) then true else !decide (m=#[].toList) then true else !decide (d=0)) (.leaf (.ret [.int .u8 0] [.box [.int .u8 k,.str r,.str m,.int .i64 d,.sl s.length 5 (Ex.exG s)],.box [.sl (jG k) 1 fun(j x:Nat)=>.int .u8 (qU k j),.int .u8 (jw k)]])) (.leaf (.loop (Prod.fst (lps K80 0)) (Prod.snd (lps K80 0)) [(3,.ptr 1 0),(41,.sl s.length 5 (Ex.exG s)),(42,.int .i64 s.length),(43,.int .i64 0)] [.box [.int .u8 k,.str r,.str m,.int .i64 d,.sl s.length 5 (Ex.exG s)],.box [.sl (jG k) 1 fun(j x:Nat)=>.int .u8 (qU k j),.int .u8 (jw k)]])))) (.ite true (.ex (fun(x:Ex)=>eqL [AV.agg [AV.int .u8 k,AV.str r,AV.str m,AV.int .i64 d,AV.sl s.length 5 (Ex.exG s)]] [AV.agg [AV.int .u8 x.kind,AV.str x.rat,AV.str x.name,AV.int .i64 x.date,AV.sl x.sub.length 5 (Ex.exG x.sub)]]∧x.rat.length<1099511627776∧x.name.length<1099511627776) fun n=>.all (fun(r:Int)=>r=bif qw n.kind n.rat n.name n.date n.sub.length then(1:Int) else(0:Int)) fun n=>.leaf (.ret [.int .u8 n] [.box [.int .u8 k,.str r,.str m,.int .i64 d,.sl s.length 5 (Ex.exG s)],.box [.nils,.int .u8 0]])) (.ite (bif bif bif !decide ((↑s.length:Int)=0) then true else !decide (r=#[].toList) then true else !decide (m=#[].toList) then true else !decide (d=0)) (.leaf (.ret [.int .u8 0] [.box [.int .u8 k,.str r,.str m,.int .i64 d,.sl s.length 5 (Ex.exG s)],.box [.nils,.int .u8 0]])) (.leaf (.loop (Prod.fst (lps K80 0)) (Prod.snd (lps K80 0)) [(3,.ptr 1 0),(41,.sl s.length 5 (Ex.exG s)),(42,.int .i64 s.length),(43,.int .i64 0)] [.box [.int .u8 k,.str r,.str m,.int .i64 d,.sl s.length 5 (Ex.exG s)],.box [.nils,.int .u8 0]]))))) (by kernel_rfl) ?_
 simp only [Tree.holds,zd,inR,lo,hi,Int.toNat_natCast]
 refine⟨fun hk=>⟨fun h=>(by cases h),fun _=>⟨fun h=> ?_,fun h=> ?_⟩⟩,fun hk=> ?_⟩
 ·have hn:¬ (r=[]∧m=[]∧d=0∧Ex.qP s=qM k):=by
   rintro⟨rfl,rfl,rfl,h4⟩
   have:s.length=jG k:=by rw [← Ex.j1,h4]; rfl
   simp [this] at h
  have e:jA k r m d (Ex.qP s)=0:=by unfold jA; rw [if_pos hk,if_neg hn]
  exact RetR.scal hq rfl (by simp [resV,e])
 ·have hh:s.length=jG k∧r=[]∧m=[]∧d=0:=by
   simp at h
   obtain⟨⟨⟨h1,h2⟩,h3⟩,h4⟩:=h
   exact⟨by omega,h2,h3,h4⟩
  obtain⟨hl,rfl,rfl,rfl⟩:=hh
  have hlen:=Ex.zy s
  have e1:jA k [] [] 0 (Ex.qP s)=if Ex.qP s=qM k then jw k else 0:=by unfold jA; rw [if_pos hk]; simp
  rw [e1] at hq
  clear h e1
  refine zb.loop (ι:={i:Nat // i≤s.length∧∀ j,j<i→(s.getD j Ex.nil).qn=qU k j}) (fun i=>SSo s i.1) (fun _=>HSo k) (fun i=>s.length - i.1) ⟨0,Nat.zero_le _,fun j hj=>by omega⟩ 0 ?_ ?_ (by kernel_rfl)
  ·exact⟨by simp [SSo,Ex.exS,za],by simp [HSo,za],by kernel_rfl,Nat.zero_le _⟩
  ·rintro⟨i,hil,hib⟩
   refine zb.run hmix (zgy ih) [3,41,42,43] 400 (T:=.ite (decide ((↑i:Int)<s.length)) (.side ((0:Int)≤i∧(↑i:Int)<s.length) (.side ((0:Int)≤i∧(↑i:Int)<(↑(jG k):Int)) (.ex (fun(x:Ex)=>eqL [AV.agg [AV.int .u8 (Ex.kind (s.getD (↑i:Int).toNat Ex.nil)),AV.str (Ex.rat (s.getD (↑i:Int).toNat Ex.nil)),AV.str (Ex.name (s.getD (↑i:Int).toNat Ex.nil)),AV.int .i64 (Ex.date (s.getD (↑i:Int).toNat Ex.nil)),AV.sl (List.length (Ex.sub (s.getD (↑i:Int).toNat Ex.nil))) 5 (Ex.deep (s.getD (↑i:Int).toNat Ex.nil))]] [AV.agg [AV.int .u8 x.kind,AV.str x.rat,AV.str x.name,AV.int .i64 x.date,AV.sl x.sub.length 5 (Ex.exG x.sub)]]∧Ex.size x<n∧Ex.size x<1152921504606846976∧Ex.zq x<1099511627776) fun n=>.all (fun(r:Int)=>r=Ex.qn n) fun n=>.ite (!decide (n=qU k (↑i:Int).toNat)) (.leaf (.ret [.int .u8 0] [.dead,.box [.sl (jG k) 1 fun(j x:Nat)=>.int .u8 (qU k j),.int .u8 (jw k)],.box [.int .u8 (Ex.kind (s.getD (↑i:Int).toNat Ex.nil)),.str (Ex.rat (s.getD (↑i:Int).toNat Ex.nil)),.str (Ex.name (s.getD (↑i:Int).toNat Ex.nil)),.int .i64 (Ex.date (s.getD (↑i:Int).toNat Ex.nil)),.sl (List.length (Ex.sub (s.getD (↑i:Int).toNat Ex.nil))) 5 (Ex.deep (s.getD (↑i:Int).toNat Ex.nil))]])) (.side (inR .i64 ((↑i:Int)+(1:Int))) (.leaf (.back 0 [(3,.ptr 1 0),(41,.sl s.length 5 (Ex.exG s)),(42,.int .i64 s.length),(43,.int .i64 ((↑i:Int)+(1:Int)))] [.dead,.box [.sl (jG k) 1 fun(j x:Nat)=>.int .u8 (qU k j),.int .u8 (jw k)],.box [.int .u8 (Ex.kind (s.getD (↑i:Int).toNat Ex.nil)),.str (Ex.rat (s.getD (↑i:Int).toNat Ex.nil)),.str (Ex.name (s.getD (↑i:Int).toNat Ex.nil)),.int .i64 (Ex.date (s.getD (↑i:Int).toNat Ex.nil)),.sl (List.length (Ex.sub (s.getD (↑i:Int).toNat Ex.nil))) 5 (Ex.deep (s.getD (↑i:Int).toNat Ex.nil))]])))))) (.leaf (.ret [.int .u8 (jw k)] [.dead,.box [.sl (jG k) 1 fun(j x:Nat)=>.int .u8 (qU k j),.int .u8 (jw k)]]))) (by kernel_rfl) ?_
   simp only [Tree.holds,zd,inR,lo,hi,Int.toNat_natCast]
   refine⟨fun hlt=> ?_,fun hge=> ?_⟩
   ·have hlt:i<s.length:=by have:=of_decide_eq_true hlt; omega
    have hg:=Ex.qg hlt
    have hg2:=Ex.yP hlt
    have hb0:Ex.qc s<2^40:=by simpa using hxb
    refine⟨by omega,fun _=>⟨by omega,fun _=>⟨s.getD i Ex.nil,⟨wH rfl rfl rfl rfl rfl (Ex.zA _),by omega,by omega,by omega⟩,⟨_,rfl⟩,?_⟩⟩⟩
    intro e he
    refine⟨fun h=> ?_,fun h=>⟨by omega,fun _=> ?_⟩⟩
    ·have hne:¬ Ex.qP s=qM k:=by
      intro h2
      have:=(Ex.K8.1 h2).2 i hlt
      rw [← he] at this
      have h3:¬ e=qU k i:=by simpa using h
      exact h3 this
     rw [if_neg hne] at hq
     exact RetR.scal hq rfl (by simp [resV])
    ·rw [if_pos trivial]
     have h3:e=qU k i:=by simpa using h
     refine⟨⟨i+1,hlt,fun j hj=> ?_⟩,by show s.length - (i+1)<s.length - i; omega,by simp [SSo,Ex.exS,za],by simp [HSo,za],by kernel_rfl,Nat.zero_le _⟩
     rcases Nat.lt_or_ge j i with h1 | h1
     ·exact hib j h1
     ·have:j=i:=by omega
      rw [this,← he,h3]
   ·have hge:i=s.length:=by have:=of_decide_eq_false hge; omega
    subst hge
    have:Ex.qP s=qM k:=Ex.K8.2 ⟨hl,hib⟩
    rw [if_pos this] at hq
    exact RetR.scal hq rfl (by simp [resV])
 ·refine⟨fun _=> ?_,fun h=>(by cases h)⟩
  refine⟨.mk k r m d s,⟨⟨⟨⟨rfl,rfl⟩,rfl,rfl,⟨rfl,rfl⟩,⟨rfl,rfl,za _ _ _⟩,trivial⟩,trivial⟩,by show r.length<_; omega,by show m.length<_; omega⟩,⟨_,rfl⟩,?_⟩
  intro e he
  have e1:jA k r m d (Ex.qP s)=e:=by
   unfold jA
   rw [if_neg (by rw [hk]; decide),he,Ex.j1]
   show _=bif qw k r m d s.length then 1 else 0
   cases qw k r m d s.length<;>rfl
  rw [e1] at hq
  exact RetR.scal hq rfl (by simp [resV])
def Kg:Ctr:=ctrP true (fun x:Ex=>[x.exA]) (fun x=>x.size<2^60∧x.zq<2^40) (fun x r=>r=x.qn) (fun _ (r:Int)=>(.int .u8 r,[]))
theorem UY:zc Tryz.prog 80 Kg:=zR Ex.size zbw
noncomputable def K85:List Go.Sx.Item:=[.code (Tryz.f85.body.getD .skip)]
def JI(n:Nat):Ctr:=ctrP true (fun x:Ex=>[x.exA]) (fun x=>x.size<n∧x.size<2^40∧x.zq<2^40) (fun x r=>r=x.qn) (fun _ (r:Int)=>(.int .i64 r,[]))
def GRs(n:Nat):Nat→Option Ctr:=fun f=>if f=85 then some (JI n) else if f=53 then some JT else if f=51 then some yC else if f=52 then some xp else none
theorem zf9{n:Nat}(h:zc Tryz.prog 85 (JI n)):∀ f c,GRs n f=some c→zc Tryz.prog f c:=by
 intro f c hf
 simp only [GRs] at hf
 by_cases hg:f=85
 ·subst hg; rw [if_pos rfl] at hf; cases hf; exact h
 rw [if_neg hg] at hf
 by_cases hg:f=53
 ·subst hg; rw [if_pos rfl] at hf; cases hf; exact Wa
 rw [if_neg hg] at hf
 by_cases hg:f=51
 ·subst hg; rw [if_pos rfl] at hf; cases hf; exact Jo
 rw [if_neg hg] at hf
 by_cases hg:f=52
 ·subst hg; rw [if_pos rfl] at hf; cases hf; exact Qn
 rw [if_neg hg] at hf
 cases hf
def SRs(b:Bool)(i:Nat):KV:=[(1,.ptr 0 0),(3,.bool b),(4,.osl 1 1 0 i),(5,.int .i64 (i:Int)),(43,.undef),(44,.undef),(47,.undef),(48,.undef),(49,.undef),(52,.undef),(53,.undef),(54,.undef),(57,.undef),(58,.undef),(59,.undef),(60,.undef),(67,.undef),(68,.undef),(71,.undef),(72,.undef),(73,.undef),(76,.undef),(77,.undef),(78,.undef),(81,.undef),(82,.undef),(83,.undef),(90,.undef),(91,.undef),(94,.undef),(95,.undef),(96,.undef),(99,.undef),(100,.undef),(101,.undef),(104,.undef),(105,.undef),(106,.undef),(113,.undef),(114,.undef),(115,.undef),(118,.undef),(121,.undef),(122,.undef),(125,.undef),(126,.undef),(127,.undef),(128,.undef),(131,.undef),(132,.undef),(133,.undef),(134,.undef),(141,.undef),(144,.undef),(145,.undef),(148,.undef),(149,.undef),(150,.undef),(151,.undef),(154,.undef),(155,.undef),(156,.undef),(157,.undef),(160,.undef),(161,.undef),(162,.undef),(163,.undef),(170,.undef),(171,.undef),(172,.undef),(175,.undef),(178,.undef),(179,.undef),(182,.undef),(183,.undef),(184,.undef),(185,.undef),(188,.undef),(189,.undef),(190,.undef),(191,.undef),(198,.undef),(199,.undef),(200,.undef),(203,.undef),(206,.undef),(207,.undef),(210,.undef),(211,.undef),(212,.undef),(213,.undef),(216,.undef),(217,.undef),(218,.undef),(219,.undef),(226,.undef),(229,.undef),(230,.undef),(233,.undef),(234,.undef),(235,.undef),(236,.undef)]
def HRs(k:Int)(r m:List UInt8)(d:Int)(s:List Ex)(l:List Int)(i:Nat):Heap:=[.box [.int .u8 k,.str r,.str m,.int .i64 d,Ex.exS s],.arr i 1 (intG l)]
theorem zd9{l:List Int}{v:Int}{i:Nat}(hl:l.length=i):eqG (i+1) 1 (appG i (intG l) (zg (zh 1 [.int .i64 v]) 0)) (intG (l++[v])):=by
 subst hl
 intro j o hj ho
 simp only [appG,zg,zh,intG]
 by_cases h:j<l.length
 ·rw [if_pos h]; simp [List.getD,List.getElem?_append_left h]
 ·have:j=l.length:=by omega
  subst this
  have:o=0:=by omega
  subst this
  rw [if_neg h]; simp [List.getD]
theorem YU(n:Nat)(ih:zc Tryz.prog 85 (JI n)):zc Tryz.prog 85 (JI (n+1)):=by
 refine zf (fn:=Tryz.f85) (c:=Tryz.f85.body.getD .skip) rfl rfl rfl fun x hx O w0 Q hq=> ?_
 replace hq:=hq _ rfl
 obtain⟨hxn,hxs,hxb⟩:=hx
 rw [Ex.size_eq] at hxn hxs
 rw [Ex.Zu] at hxb
 rw [Ex.X1] at hq
 obtain⟨k,r,m,d,s⟩:=x
 simp only [Ex.sub,Ex.rat,Ex.name,Ex.kind,Ex.date] at hxn hxs hq hxb
 have hlen:=Ex.zy s
 refine zb.run hmix (zf9 ih) [1,3,4,5,43,44,47,48,49,52,53,54,57,58,59,60,67,68,71,72,73,76,77,78,81,82,83,90,91,94,95,96,99,100,101,104,105,106,113,114,115,118,121,122,125,126,127,128,131,132,133,134,141,144,145,148,149,150,151,154,155,156,157,160,161,162,163,170,171,172,175,178,179,182,183,184,185,188,189,190,191,198,199,200,203,206,207,210,211,212,213,216,217,218,219,226,229,230,233,234,235,236] 400 (T:=.leaf (.loop (Prod.fst (lps K85 0)) (Prod.snd (lps K85 0)) [(1,.ptr 0 0),(3,.bool (bif bif decide (r=#[].toList) then decide (m=#[].toList) else false then decide (d=0) else false)),(4,.nils),(5,.int .i64 0),(43,.undef),(44,.undef),(47,.undef),(48,.undef),(49,.undef),(52,.undef),(53,.undef),(54,.undef),(57,.undef),(58,.undef),(59,.undef),(60,.undef),(67,.undef),(68,.undef),(71,.undef),(72,.undef),(73,.undef),(76,.undef),(77,.undef),(78,.undef),(81,.undef),(82,.undef),(83,.undef),(90,.undef),(91,.undef),(94,.undef),(95,.undef),(96,.undef),(99,.undef),(100,.undef),(101,.undef),(104,.undef),(105,.undef),(106,.undef),(113,.undef),(114,.undef),(115,.undef),(118,.undef),(121,.undef),(122,.undef),(125,.undef),(126,.undef),(127,.undef),(128,.undef),(131,.undef),(132,.undef),(133,.undef),(134,.undef),(141,.undef),(144,.undef),(145,.undef),(148,.undef),(149,.undef),(150,.undef),(151,.undef),(154,.undef),(155,.undef),(156,.undef),(157,.undef),(160,.undef),(161,.undef),(162,.undef),(163,.undef),(170,.undef),(171,.undef),(172,.undef),(175,.undef),(178,.undef),(179,.undef),(182,.undef),(183,.undef),(184,.undef),(185,.undef),(188,.undef),(189,.undef),(190,.undef),(191,.undef),(198,.undef),(199,.undef),(200,.undef),(203,.undef),(206,.undef),(207,.undef),(210,.undef),(211,.undef),(212,.undef),(213,.undef),(216,.undef),(217,.undef),(218,.undef),(219,.undef),(226,.undef),(229,.undef),(230,.undef),(233,.undef),(234,.undef),(235,.undef),(236,.undef)] [.box [.int .u8 k,.str r,.str m,.int .i64 d,.sl s.length 5 (Ex.exG s)]])) (by kernel_rfl) ?_
 simp only [Tree.holds,zd]
 refine zb.bear 4 1 (intG []) rfl (by decide) (by kernel_rfl) ?_
 refine zb.loop (ι:={i:Nat // i≤s.length}) (fun i=>SRs (y9 r m d) i.1) (fun i=>HRs k r m d s (Ex.qP (s.take i.1)) i.1) (fun i=>s.length - i.1) ⟨0,Nat.zero_le _⟩ 0 ?_ ?_ (by kernel_rfl)
 ·exact⟨by simp [SRs,k5,y9],by simp [HRs,Ex.exS,Ex.qP,za],by kernel_rfl,Nat.zero_le _⟩
 ·rintro⟨i,hil⟩
  obtain⟨b,hb⟩:∃ b,y9 r m d=b:=⟨_,rfl⟩
  obtain⟨l,hl⟩:∃ l,Ex.qP (s.take i)=l:=⟨_,rfl⟩
  have hll:l.length=i:=by rw [← hl,Ex.j1,List.length_take]; omega
  simp only [hb,hl]
  refine zb.run hmix (zf9 ih) [1,3,4,5,43,44,47,48,49,52,53,54,57,58,59,60,67,68,71,72,73,76,77,78,81,82,83,90,91,94,95,96,99,100,101,104,105,106,113,114,115,118,121,122,125,126,127,128,131,132,133,134,141,144,145,148,149,150,151,154,155,156,157,160,161,162,163,170,171,172,175,178,179,182,183,184,185,188,189,190,191,198,199,200,203,206,207,210,211,212,213,216,217,218,219,226,229,230,233,234,235,236] 400 (T:=.ite (decide ((↑i:Int)<s.length)) (.side ((0:Int)≤i∧(↑i:Int)<s.length) (.ex (fun(x:Ex)=>eqL [AV.agg [AV.int .u8 (Ex.kind (s.getD (↑i:Int).toNat Ex.nil)),AV.str (Ex.rat (s.getD (↑i:Int).toNat Ex.nil)),AV.str (Ex.name (s.getD (↑i:Int).toNat Ex.nil)),AV.int .i64 (Ex.date (s.getD (↑i:Int).toNat Ex.nil)),AV.sl (List.length (Ex.sub (s.getD (↑i:Int).toNat Ex.nil))) 5 (Ex.deep (s.getD (↑i:Int).toNat Ex.nil))]] [AV.agg [AV.int .u8 x.kind,AV.str x.rat,AV.str x.name,AV.int .i64 x.date,AV.sl x.sub.length 5 (Ex.exG x.sub)]]∧Ex.size x<n∧Ex.size x<1099511627776∧Ex.zq x<1099511627776) fun n=>.all (fun(r:Int)=>r=Ex.qn n) fun n=>.side (0=0∧i≤i∧(i+1)*8≤140737488355328) (.side (inR .i64 ((↑i:Int)+(1:Int))) (.leaf (.back 0 [(1,.ptr 0 0),(3,.bool b),(4,.osl 1 1 0 (i+1)),(5,.int .i64 ((↑i:Int)+(1:Int))),(43,.undef),(44,.undef),(47,.undef),(48,.undef),(49,.undef),(52,.undef),(53,.undef),(54,.undef),(57,.undef),(58,.undef),(59,.undef),(60,.undef),(67,.undef),(68,.undef),(71,.undef),(72,.undef),(73,.undef),(76,.undef),(77,.undef),(78,.undef),(81,.undef),(82,.undef),(83,.undef),(90,.undef),(91,.undef),(94,.undef),(95,.undef),(96,.undef),(99,.undef),(100,.undef),(101,.undef),(104,.undef),(105,.undef),(106,.undef),(113,.undef),(114,.undef),(115,.undef),(118,.undef),(121,.undef),(122,.undef),(125,.undef),(126,.undef),(127,.undef),(128,.undef),(131,.undef),(132,.undef),(133,.undef),(134,.undef),(141,.undef),(144,.undef),(145,.undef),(148,.undef),(149,.undef),(150,.undef),(151,.undef),(154,.undef),(155,.undef),(156,.undef),(157,.undef),(160,.undef),(161,.undef),(162,.undef),(163,.undef),(170,.undef),(171,.undef),(172,.undef),(175,.undef),(178,.undef),(179,.undef),(182,.undef),(183,.undef),(184,.undef),(185,.undef),(188,.undef),(189,.undef),(190,.undef),(191,.undef),(198,.undef),(199,.undef),(200,.undef),(203,.undef),(206,.undef),(207,.undef),(210,.undef),(211,.undef),(212,.undef),(213,.undef),(216,.undef),(217,.undef),(218,.undef),(219,.undef),(226,.undef),(229,.undef),(230,.undef),(233,.undef),(234,.undef),(235,.undef),(236,.undef)] [.box [.int .u8 k,.str r,.str m,.int .i64 d,.sl s.length 5 (Ex.exG s)],.arr (i+1) 1 (appG i (intG l) (zg (zh 1 [.int .i64 n]) 0)),.arr 1 1 (zh 1 [.int .i64 n])]))))) (.ex (fun(x:List UInt8)=>(bif bif bif decide (k=1) then decide ((↑i:Int)=0) else false then decide (m=#[].toList) else false then decide (d=0) else false)=true→eqL [AV.str r] [AV.str x]∧x.length<1099511627776) fun n=>.all (fun(x:Int)=>(bif bif bif decide (k=1) then decide ((↑i:Int)=0) else false then decide (m=#[].toList) else false then decide (d=0) else false)=true→x=errR n) fun n=>.ite (bif bif bif bif decide (k=1) then decide ((↑i:Int)=0) else false then decide (m=#[].toList) else false then decide (d=0) else false then decide (n=0) else false) (.leaf (.ret [.int .i64 1] [.box [.int .u8 k,.str r,.str m,.int .i64 d,.sl s.length 5 (Ex.exG s)],.arr i 1 (intG l)])) (.ex (fun(x:List UInt8)=>(bif bif decide (k=2) then decide ((↑i:Int)=0) else false then decide (r=#[].toList) else false)=true→eqL [AV.str m] [AV.str x]∧x.length<4611686018427387904) fun n=>.all (fun(x:Bool)=>(bif bif decide (k=2) then decide ((↑i:Int)=0) else false then decide (r=#[].toList) else false)=true→x=zN n) fun n=>.ex (fun(x:Int)=>(bif bif bif decide (k=2) then decide ((↑i:Int)=0) else false then decide (r=#[].toList) else false then n else false)=true→eqL [AV.int .i64 d] [AV.int .i64 x]∧True) fun n_1=>.all (fun(x:Bool)=>(bif bif bif decide (k=2) then decide ((↑i:Int)=0) else false then decide (r=#[].toList) else false then n else false)=true→x=dayB n_1) fun n_2=>.ite (bif bif bif bif decide (k=2) then decide ((↑i:Int)=0) else false then decide (r=#[].toList) else false then n else false then n_2 else false) (.leaf (.ret [.int .i64 1] [.box [.int .u8 k,.str r,.str m,.int .i64 d,.sl s.length 5 (Ex.exG s)],.arr i 1 (intG l)])) (.ex (fun(x:List UInt8)=>(bif bif decide (k=3) then decide ((↑i:Int)=0) else false then decide (r=#[].toList) else false)=true→eqL [AV.str m] [AV.str x]∧x.length<4611686018427387904) fun n=>.all (fun(x:Bool)=>(bif bif decide (k=3) then decide ((↑i:Int)=0) else false then decide (r=#[].toList) else false)=true→x=zN n) fun n=>.ite (bif bif bif bif decide (k=3) then decide ((↑i:Int)=0) else false then decide (r=#[].toList) else false then n else false then decide (d=0) else false) (.leaf (.ret [.int .i64 1] [.box [.int .u8 k,.str r,.str m,.int .i64 d,.sl s.length 5 (Ex.exG s)],.arr i 1 (intG l)])) (.side ((bif bif bif decide ((4:Int)≤k) then decide (k≤8) else false then b else false then decide ((↑i:Int)=2) else false)=true→(0:Int)≤0∧(0:Int)<i) (.side ((bif bif bif bif decide ((4:Int)≤k) then decide (k≤8) else false then b else false then decide ((↑i:Int)=2) else false then decide (l.getD 0 (0:Int)=1) else false)=true→(0:Int)≤1∧(1:Int)<i) (.ite (bif bif bif bif bif decide ((4:Int)≤k) then decide (k≤8) else false then b else false then decide ((↑i:Int)=2) else false then decide (l.getD 0 (0:Int)=1) else false then decide (l.getD 1 (0:Int)=1) else false) (.leaf (.ret [.int .i64 1] [.box [.int .u8 k,.str r,.str m,.int .i64 d,.sl s.length 5 (Ex.exG s)],.arr i 1 (intG l)])) (.side ((bif bif decide (k=9) then b else false then decide ((↑i:Int)=3) else false)=true→(0:Int)≤0∧(0:Int)<i) (.side ((bif bif bif decide (k=9) then b else false then decide ((↑i:Int)=3) else false then decide (l.getD 0 (0:Int)=2) else false)=true→(0:Int)≤1∧(1:Int)<i) (.side ((bif bif bif bif decide (k=9) then b else false then decide ((↑i:Int)=3) else false then decide (l.getD 0 (0:Int)=2) else false then decide (l.getD 1 (0:Int)=1) else false)=true→(0:Int)≤2∧(2:Int)<i) (.ite (bif bif bif bif bif decide (k=9) then b else false then decide ((↑i:Int)=3) else false then decide (l.getD 0 (0:Int)=2) else false then decide (l.getD 1 (0:Int)=1) else false then decide (l.getD 2 (0:Int)=1) else false) (.leaf (.ret [.int .i64 1] [.box [.int .u8 k,.str r,.str m,.int .i64 d,.sl s.length 5 (Ex.exG s)],.arr i 1 (intG l)])) (.side ((bif bif bif decide (k=11) then true else decide (k=12) then b else false then decide ((↑i:Int)=2) else false)=true→(0:Int)≤0∧(0:Int)<i) (.side ((bif bif bif bif decide (k=11) then true else decide (k=12) then b else false then decide ((↑i:Int)=2) else false then decide (l.getD 0 (0:Int)=1) else false)=true→(0:Int)≤1∧(1:Int)<i) (.ite (bif bif bif bif bif decide (k=11) then true else decide (k=12) then b else false then decide ((↑i:Int)=2) else false then decide (l.getD 0 (0:Int)=1) else false then decide (l.getD 1 (0:Int)=1) else false) (.leaf (.ret [.int .i64 2] [.box [.int .u8 k,.str r,.str m,.int .i64 d,.sl s.length 5 (Ex.exG s)],.arr i 1 (intG l)])) (.side ((bif bif bif decide (k=13) then true else decide (k=14) then b else false then decide ((↑i:Int)=2) else false)=true→(0:Int)≤0∧(0:Int)<i) (.side ((bif bif bif bif decide (k=13) then true else decide (k=14) then b else false then decide ((↑i:Int)=2) else false then decide (l.getD 0 (0:Int)=2) else false)=true→(0:Int)≤1∧(1:Int)<i) (.ite (bif bif bif bif bif decide (k=13) then true else decide (k=14) then b else false then decide ((↑i:Int)=2) else false then decide (l.getD 0 (0:Int)=2) else false then decide (l.getD 1 (0:Int)=2) else false) (.leaf (.ret [.int .i64 2] [.box [.int .u8 k,.str r,.str m,.int .i64 d,.sl s.length 5 (Ex.exG s)],.arr i 1 (intG l)])) (.side ((bif bif decide (k=15) then b else false then decide ((↑i:Int)=1) else false)=true→(0:Int)≤0∧(0:Int)<i) (.ite (bif bif bif decide (k=15) then b else false then decide ((↑i:Int)=1) else false then decide (l.getD 0 (0:Int)=2) else false) (.leaf (.ret [.int .i64 2] [.box [.int .u8 k,.str r,.str m,.int .i64 d,.sl s.length 5 (Ex.exG s)],.arr i 1 (intG l)])) (.leaf (.ret [.int .i64 0] [.box [.int .u8 k,.str r,.str m,.int .i64 d,.sl s.length 5 (Ex.exG s)],.arr i 1 (intG l)]))))))))))))))))))))) (by kernel_rfl) ?_
  simp only [Tree.holds,zd,inR,lo,hi,Int.toNat_natCast]
  refine⟨fun hlt=> ?_,fun hge=> ?_⟩
  ·have hlt:i<s.length:=by have:=of_decide_eq_true hlt; omega
   have hg:=Ex.qg hlt
   have hg2:=Ex.yP hlt
   have ht:=Ex.YP s i hlt
   refine⟨by omega,fun _=>⟨s.getD i Ex.nil,⟨wH rfl rfl rfl rfl rfl (Ex.zA _),by omega,by omega,by omega⟩,⟨_,rfl⟩,?_⟩⟩
   intro e he
   refine⟨⟨trivial,Nat.le_refl _,by omega⟩,fun _=>⟨by omega,fun _=> ?_⟩⟩
   rw [if_pos trivial]
   refine⟨⟨i+1,hlt⟩,by show s.length - (i+1)<s.length - i; omega,by simp [SRs],?_,by kernel_rfl,Nat.zero_le _⟩
   have hp:=zd9 (v:=e) hll
   rw [ht,hl,← he]
   exact⟨⟨⟨rfl,rfl⟩,rfl,rfl,⟨rfl,rfl⟩,⟨rfl,rfl,za _ _ _⟩,trivial⟩,⟨rfl,rfl,hp⟩,trivial⟩
  ·have hge:i=s.length:=by have:=of_decide_eq_false hge; omega
   subst hge
   rw [List.take_length] at hl
   clear hge hil hxn ih
   have fin:∀ z:Int,z=jA k r m d l→RetR (JI (n+1)) 0 Q [.int .i64 z] (HRs k r m d s l s.length):=by
    intro z hz
    rw [hl,← hz] at hq
    exact RetR.scal hq rfl (by simp [resV])
   have hls:((s.length:Nat):Int)=l.length:=by rw [hll]
   have hn0:s.length=0↔s=[]:=List.length_eq_zero_iff
   have q1:∀ a:Int,l=[a]↔((s.length:Nat):Int)=1∧l[0]?.getD 0=a:=fun a=>by rw [hls]; exact zni
   have q2:∀ a c:Int,l=[a,c]↔((s.length:Nat):Int)=2∧l[0]?.getD 0=a∧l[1]?.getD 0=c:=fun a c=>by rw [hls]; exact znc
   have q3:∀ a c e:Int,l=[a,c,e]↔((s.length:Nat):Int)=3∧l[0]?.getD 0=a∧l[1]?.getD 0=c∧l[2]?.getD 0=e:=fun a c e=>by rw [hls]; exact znb
   by_cases k1:k=1
   ·subst k1
    have hs:=vR (k:=1) (r:=r) (m:=m) (d:=d) (l:=l) (by decide)
    rw [hll] at hs
    simp
    refine⟨r,fun _ _ _=>⟨rfl,by omega⟩,⟨_,fun _ _ _=>rfl⟩,?_⟩
    intro e he
    refine⟨fun g1 g2 g3 g4=>fin 1 ?_,fun h=>fin 0 ?_⟩
    ·rw [hs,if_pos]
     have:=he g1 g2 g3
     simp [qw,g1,g2,g3,← this,g4]
    ·rw [hs,if_neg]
     intro hL
     simp [qw] at hL
     obtain⟨g1,⟨g4,g2⟩,g3⟩:=hL
     exact h g1 g2 g3 ((he g1 g2 g3).trans g4)
   by_cases k2:k=2
   ·subst k2
    have hs:=vR (k:=2) (r:=r) (m:=m) (d:=d) (l:=l) (by decide)
    rw [hll] at hs
    simp
    refine⟨m,fun _ _=>⟨rfl,by omega⟩,?_,fun hn=>fin 0 ?_,fun hn=>⟨d,fun _ _=>rfl,?_,fun hd=>fin 0 ?_,fun hd=>⟨fun g1 g2=>fin 1 ?_,fun h=>fin 0 ?_⟩⟩⟩
    ·cases zN m
     ·exact .inl fun _ _=>rfl
     ·exact .inr fun _ _=>rfl
    ·rw [hs,if_neg]
     intro hL
     simp [qw] at hL
     rw [hn hL.1 hL.2.1.1] at hL
     exact absurd hL.2.1.2 (by decide)
    ·cases dayB d
     ·exact .inl fun _ _=>rfl
     ·exact .inr fun _ _=>rfl
    ·rw [hs,if_neg]
     intro hL
     simp [qw] at hL
     rw [hd hL.1 hL.2.1.1] at hL
     exact absurd hL.2.2 (by decide)
    ·rw [hs,if_pos]
     simp [qw,g1,g2,hn g1 g2,hd g1 g2]
    ·rw [hs,if_neg]
     intro hL
     simp [qw] at hL
     exact h hL.1 hL.2.1.1
   by_cases k3:k=3
   ·subst k3
    have hs:=vR (k:=3) (r:=r) (m:=m) (d:=d) (l:=l) (by decide)
    rw [hll] at hs
    simp
    refine⟨m,fun _ _=>⟨rfl,by omega⟩,?_,fun hn=>fin 0 ?_,fun hn=>⟨fun g1 g2 g3=>fin 1 ?_,fun h=>fin 0 ?_⟩⟩
    ·cases zN m
     ·exact .inl fun _ _=>rfl
     ·exact .inr fun _ _=>rfl
    ·rw [hs,if_neg]
     intro hL
     simp [qw] at hL
     rw [hn hL.1 hL.2.1.1] at hL
     exact absurd hL.2.1.2 (by decide)
    ·rw [hs,if_pos]
     simp [qw,g1,g2,g3,hn g1 g2]
    ·rw [hs,if_neg]
     intro hL
     simp [qw] at hL
     exact h hL.1 hL.2.1.1 hL.2.2
   by_cases k4:4≤k∧k≤8
   ·have hs:jA k r m d l=if y9 r m d=true∧l=[1,1] then 1 else 0:=kF (by
     have:k=4∨k=5∨k=6∨k=7∨k=8:=by omega
     rcases this with rfl | rfl | rfl | rfl | rfl<;>rfl)
    simp [k1,k2,k3,k4,show ¬ k=9 by omega,show ¬ k=11 by omega,show ¬ k=12 by omega,show ¬ k=13 by omega,show ¬ k=14 by omega,show ¬ k=15 by omega]
    refine⟨fun _ h=>by omega,fun _=>⟨fun _ h _=>by omega,fun _=>⟨fun h1 h2 h3 h4=>fin 1 ?_,fun h=>fin 0 ?_⟩⟩⟩
    ·rw [hs,if_pos ⟨hb.trans h1,(q2 _ _).2 ⟨h2,h3,h4⟩⟩]
    ·rw [hs,if_neg fun g=>h (hb.symm.trans g.1) ((q2 _ _).1 g.2).1 ((q2 _ _).1 g.2).2.1 ((q2 _ _).1 g.2).2.2]
   by_cases k9:k=9
   ·subst k9
    have hs:jA 9 r m d l=if y9 r m d=true∧l=[2,1,1] then 1 else 0:=kF rfl
    simp
    refine⟨fun _ h=>by omega,fun _=>⟨fun _ h _=>by omega,fun _=>⟨fun _ h _ _=>by omega,fun _=>⟨fun h1 h2 h3 h4 h5=>fin 1 ?_,fun h=>fin 0 ?_⟩⟩⟩⟩
    ·rw [hs,if_pos ⟨hb.trans h1,(q3 _ _ _).2 ⟨h2,h3,h4,h5⟩⟩]
    ·rw [hs,if_neg fun g=>h (hb.symm.trans g.1) ((q3 _ _ _).1 g.2).1 ((q3 _ _ _).1 g.2).2.1 ((q3 _ _ _).1 g.2).2.2.1 ((q3 _ _ _).1 g.2).2.2.2]
   by_cases k11:k=11∨k=12
   ·have hs:jA k r m d l=if y9 r m d=true∧l=[1,1] then 2 else 0:=kF (by rcases k11 with rfl | rfl<;>rfl)
    simp [k1,k2,k3,k4,k9,k11,show ¬ k≤8 by omega,show ¬ k=13 by omega,show ¬ k=14 by omega,show ¬ k=15 by omega]
    refine⟨fun _ h=>by omega,fun _=>⟨fun _ h _=>by omega,fun _=>⟨fun h1 h2 h3 h4=>fin 2 ?_,fun h=>fin 0 ?_⟩⟩⟩
    ·rw [hs,if_pos ⟨hb.trans h1,(q2 _ _).2 ⟨h2,h3,h4⟩⟩]
    ·rw [hs,if_neg fun g=>h (hb.symm.trans g.1) ((q2 _ _).1 g.2).1 ((q2 _ _).1 g.2).2.1 ((q2 _ _).1 g.2).2.2]
   by_cases k13:k=13∨k=14
   ·have hs:jA k r m d l=if y9 r m d=true∧l=[2,2] then 2 else 0:=kF (by rcases k13 with rfl | rfl<;>rfl)
    simp [k1,k2,k3,k4,k9,k11,k13,show ¬ k≤8 by omega,show ¬ k=15 by omega]
    refine⟨fun _ h=>by omega,fun _=>⟨fun _ h _=>by omega,fun _=>⟨fun h1 h2 h3 h4=>fin 2 ?_,fun h=>fin 0 ?_⟩⟩⟩
    ·rw [hs,if_pos ⟨hb.trans h1,(q2 _ _).2 ⟨h2,h3,h4⟩⟩]
    ·rw [hs,if_neg fun g=>h (hb.symm.trans g.1) ((q2 _ _).1 g.2).1 ((q2 _ _).1 g.2).2.1 ((q2 _ _).1 g.2).2.2]
   by_cases k15:k=15
   ·subst k15
    have hs:jA 15 r m d l=if y9 r m d=true∧l=[2] then 2 else 0:=kF rfl
    simp
    refine⟨fun _ h=>by omega,fun _=>⟨fun h1 h2 h3=>fin 2 ?_,fun h=>fin 0 ?_⟩⟩
    ·rw [hs,if_pos ⟨hb.trans h1,(q1 _).2 ⟨h2,h3⟩⟩]
    ·rw [hs,if_neg fun g=>h (hb.symm.trans g.1) ((q1 _).1 g.2).1 ((q1 _).1 g.2).2]
   ·have hs:=vR (k:=k) (r:=r) (m:=m) (d:=d) (l:=l) (zmy (by omega) (by omega))
    have hlf:qw k r m d l.length=false:=by simp [qw,k1,k2,k3]
    rw [hlf] at hs
    simp [k1,k2,k3,k4,k9,k11,k13,k15]
    exact fin 0 (by rw [hs]; rfl)
def Jl:Ctr:=ctrP true (fun x:Ex=>[x.exA]) (fun x=>x.size<2^40∧x.zq<2^40) (fun x r=>r=x.qn) (fun _ (r:Int)=>(.int .i64 r,[]))
theorem X6:zc Tryz.prog 85 Jl:=zR Ex.size YU
end Go.Proofs.Tryz
end
