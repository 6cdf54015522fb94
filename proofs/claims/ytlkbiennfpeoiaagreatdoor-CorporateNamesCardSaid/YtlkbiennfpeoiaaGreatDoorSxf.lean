/- Part 6 of the proof. -/
import Derived.Test.YtlkbiennfpeoiaaGreatDoorSxa
import Derived.Test.YtlkbiennfpeoiaaGreatDoorSxe
import Derived.Lib.Strings
import Derived.Lib.Slices
import Derived.Lib.Walk
import Derived.Lib.Bytealg
import Derived.Test.YtlkbiennfpeoiaaGreatDoorProg
set_option linter.unusedVariables false
set_option linter.unusedSimpArgs false
set_option linter.unusedSectionVars false
section
set_option maxRecDepth 100000
open Go Go.Sx Go.Proofs Go.Nov
namespace Go.Proofs.Tryz
attribute [local simp] eqKV eqA eqA0 eqH eqB eqL eqL0
noncomputable def K147:List Go.Sx.Item:=[.code (Tryz.f147.body.getD .skip)]
def U7:Ctr:=ctrT false false (fun s:List UInt8=>[.str s]) (fun _=>[]) (fun _=>True) (fun _ (_:Unit)=>True) (fun s _=>(.fn 165 [] [.ptr 0 0],[.box [.str s]]))
theorem zaa:zf Tryz.prog 159 U7:=by
 refine qI (fn:=Tryz.f159) (c:=Tryz.f159.body.getD .skip) rfl rfl rfl (fun h=>by cases h) fun s hp O w0 σ0 Q hl hq=> ?_
 have h0:σ0=[]:=List.length_eq_zero_iff.1 (by simpa using hl)
 subst h0
 refine zc.run hmix zD [0] 400 (T:=.leaf (.ret [.fn 165 [] [.ptr 0 0]] [.box [.str s]])) (by kernel_rfl) ?_
 simp only [Tree.holds,zd]
 exact RetR.out1 0 (by simp) (hq () trivial) (fun h=>by cases h) (by simp [resV,exp2,exp1,exp0,z5,ren0,eqA2]) (by simp [expB,exp1,exp0,ren0])
noncomputable def G3:Nat→Option Ctr:=fun f=>if f=159 then some (U7) else if f=148 then some (uX) else none
theorem Wd:∀ g c,G3 g=some c→zf Tryz.prog g c:=okIf zaa (okIf W8 (zx))
def KR:KV:=[(2,.ptr 0 0),(3,.ptr 1 0),(5,.undef),(6,.undef),(16,.fn 165 [] [.ptr 2 0]),(17,.undef),(19,.undef),(20,.undef)]
def HR(neg:Bool)(b:List UInt8):List Nat→Heap
 | []=>[.box [.bool false,.nils],.box [.bool neg,.nils],.box [.str b]]
 | d::o=>[.box [.bool false,.nils],.box [.bool neg,.osl 4 1 0 (o.length+1)],.box [.str b],.arr 1 1 (natG .u32 [d]),.arr (o.length+1) 1 (natG .u32 (d::o))]
theorem Yl(s:ByteArray):∀ e,e≤s.size→val ((chunks s e).map decB)=numD (s.data.toList.take e):=by
 intro e
 induction e using Nat.strongRecOn with
 | _ e ih=>
  intro he
  rcases Nat.eq_zero_or_pos e with h | h
  ·subst h; simp [vQ,val,numD]
  ·rw [vN s h,List.map_cons,val,ih (e - 9) (by omega) (by omega)]
   have hl:s.data.toList.length=s.size:=by rw [Array.length_toList]; rfl
   have h1:s.data.toList.take e=s.data.toList.take (e - 9)++(s.data.toList.take e).drop (e - 9):=by
    conv=>lhs; rw [← List.take_append_drop (e - 9) (s.data.toList.take e)]
    rw [List.take_take,Nat.min_eq_left (by omega)]
   rw [h1,vP,decB,yL,Nat.add_comm,Nat.mul_comm]
   congr 1
   rcases Nat.lt_or_ge e 9 with h9 | h9
   ·rw [show e - 9=0 by omega]; simp [numD]
   ·congr 1
    have:((s.data.toList.take e).drop (e - 9)).length=9:=by simp; omega
    rw [this]
theorem Y9(s:ByteArray)(hd:allD s.data.toList):∀ e,e≤s.size→∀ x∈chunks s e,x.size≤9∧allD x.data.toList:=by
 intro e
 induction e using Nat.strongRecOn with
 | _ e ih=>
  intro he x hx
  rcases Nat.eq_zero_or_pos e with h | h
  ·subst h; simp [vQ] at hx
  ·rw [vN s h] at hx
   rcases List.mem_cons.1 hx with rfl | hx
   ·refine⟨by rw [ByteArray.size_extract]; omega,?_⟩
    rw [yL]
    intro c hc
    exact hd c (List.mem_of_mem_take (List.mem_of_mem_drop hc))
   ·exact ih (e - 9) (by omega) (by omega) x hx
theorem Q1(s:ByteArray):∀ e,(chunks s e).length≤e:=by
 intro e
 induction e using Nat.strongRecOn with
 | _ e ih=>
  rcases Nat.eq_zero_or_pos e with h | h
  ·subst h; simp [vQ]
  ·rw [vN s h,List.length_cons]
   have:=ih (e - 9) (by omega)
   omega
abbrev Grp:Type:={x:ByteArray // x.size≤9∧allD x.data.toList}
def zbz:Ctr:=ctrP false (fun p:Bool×List UInt8=>[.str (sgn p.1 p.2)]) (fun p=>allD p.2∧p.2≠[]∧p.2.length≤1000000) (fun p r=>r=numD p.2) (fun p r=>(.agg [.bool p.1,magS r],[]))
def SR(x:List UInt8)(v i:Nat):KV:=[(2,.ptr 0 0),(3,.ptr 1 0),(5,.str x),(6,.int .u32 (v:Int)),(16,.undef),(17,.undef),(19,.int .i64 (x.length:Int)),(20,.int .i64 (i:Int))]
theorem zah{O:Nat→Prop}{W:World}{σ1:List SE}(l:Nat)(neg:Bool)(b:List UInt8)(o:List Nat)(ho:o.length≤1000000)(y:List UInt8)(hxd:allD y)(hx9:y.length≤9)(X:Prop)(Hx:Heap) :
  zE (some l) Tryz.prog (bare Tryz.f147) O 3 W σ1 (fun d kv' h'=>LeK 3 Tryz.f147.ntmps [] h' [] (HR neg b (o++[numD y]))) (fun _ h'=>X∧LeK 3 Tryz.f147.ntmps [] h' [] Hx) (.code (.loop (lps (roundOf K147 0) 0).1)::(lps (roundOf K147 0) 0).2)
   (mk Tryz.f147.ntmps [(2,.ptr 0 0),(3,.ptr 1 0),(5,.str y),(6,.int .u32 0),(16,.fn 165 [] [.ptr 2 0]),(17,.str y),(19,.int .i64 (y.length:Int)),(20,.int .i64 0)] (HR neg b o)):=by
 refine zc.loop (ι:={i:Nat // i≤y.length}) (fun i=>SR y (numD (y.take i.1)) i.1) (fun _=>HR neg b o) (fun i=>y.length - i.1) ⟨0,Nat.zero_le _⟩ 1 ?_ ?_ (by kernel_rfl)
 ·refine⟨by simp [SR,numD],?_,?_,?_⟩
  ·cases o<;>simp [HR,zb]
  ·cases o<;>kernel_rfl
  ·cases o<;>simp [HR]
 ·rintro⟨i,hil⟩
  have hbound:numD (y.take i)<1000000000:=by
   have h1:=y4 (l:=y.take i) fun c hc=>hxd c (List.mem_of_mem_take hc)
   have h2:10^(y.take i).length≤10^9:=Nat.pow_le_pow_right (by decide) (by rw [List.length_take]; omega)
   have h4:(10:Nat)^9=1000000000:=by decide
   omega
  have hnext:∀ h:i<y.length,numD (y.take (i+1))=numD (y.take i)*10+((y.getD i 0).toNat - 48):=by
   intro h; rw [XO y i h,zb4]
  have hdig:i<y.length→48≤(y.getD i 0).toNat∧(y.getD i 0).toNat≤57:=by
   intro h
   have:=hxd (y.getD i 0) (by simp [List.getD,h])
   exact this
  have hnb:i<y.length→numD (y.take (i+1))<1000000000:=by
   intro h
   have h1:=y4 (l:=y.take (i+1)) fun c hc=>hxd c (List.mem_of_mem_take hc)
   have h2:10^(y.take (i+1)).length≤10^9:=Nat.pow_le_pow_right (by decide) (by rw [List.length_take]; omega)
   have h4:(10:Nat)^9=1000000000:=by decide
   omega
  obtain⟨v,hv⟩:∃ v,numD (y.take i)=v:=⟨_,rfl⟩
  simp only [hv] at hbound hnext ⊢
  have ei:((i:Int)+1)=((i+1:Nat):Int):=by omega
  cases o with
  | nil=>
   refine zc.run hmix Wd [2,3,5,6,16,17,19,20] 400 (T:=.ite (decide ((↑i:Int)<y.length)) (.side (inR .u32 ((↑v:Int)*(10:Int))) (.side ((0:Int)≤i∧(↑i:Int)<y.length) (.side (inR .u8 ((↑(UInt8.toNat (y.getD (↑i:Int).toNat (0:UInt8))):Int) - (48:Int))) (.side (inR .u32 ((↑(UInt8.toNat (y.getD (↑i:Int).toNat (0:UInt8))):Int) - (48:Int))) (.side (inR .u32 ((↑v:Int)*(10:Int)+((↑(UInt8.toNat (y.getD (↑i:Int).toNat (0:UInt8))):Int) - (48:Int)))) (.side (inR .i64 ((↑i:Int)+(1:Int))) (.leaf (.back 1 [(2,.ptr 0 0),(3,.ptr 1 0),(5,.str y),(6,.int .u32 ((↑v:Int)*(10:Int)+((↑(UInt8.toNat (y.getD (↑i:Int).toNat (0:UInt8))):Int) - (48:Int)))),(16,.undef),(17,.undef),(19,.int .i64 y.length),(20,.int .i64 ((↑i:Int)+(1:Int)))] [.box [.bool false,.nils],.box [.bool neg,.nils],.box [.str b]])))))))) (.side (4≤140737488355328) (.leaf (.back 0 [(2,.ptr 0 0),(3,.ptr 1 0),(5,.str y),(6,.int .u32 v),(16,.undef),(17,.undef),(19,.int .i64 y.length),(20,.int .i64 i)] [.box [.bool false,.nils],.box [.bool neg,.osl 4 1 0 1],.box [.str b],.arr 1 1 (zh 1 [.int .u32 v]),.arr 1 1 (zg (zh 1 [.int .u32 v]) 0)])))) (by kernel_rfl) ?_
   simp only [Tree.holds,zd,inR,lo,hi,Int.toNat_natCast,ei]
   refine⟨fun hlt=> ?_,fun hge=> ?_⟩
   ·have hlt:i<y.length:=by simp at hlt; omega
    have h1:=hdig hlt
    have h2:=hnb hlt
    have h3:=hnext hlt
    generalize (y.getD i 0).toNat=c at h1 h3 ⊢
    iterate 6 refine⟨by omega,fun _=> ?_⟩
    rw [if_pos trivial]
    refine⟨⟨i+1,hlt⟩,by show y.length - (i+1)<y.length - i; omega,?_,by simp [HR],by kernel_rfl,by simp [HR]⟩
    simp [SR,h3]; omega
   ·have hge:i=y.length:=by simp at hge; omega
    subst hge
    rw [List.take_length] at hv
    refine⟨by omega,fun _=> ?_⟩
    rw [if_neg (by decide),hv]
    refine⟨by simp,?_,by kernel_rfl,by simp [HR]⟩
    simp only [List.nil_append,HR]
    refine⟨by simp,by simp,by simp,⟨rfl,rfl,xA _ _⟩,⟨rfl,rfl,?_⟩,trivial⟩
    exact fun j o hj ho=>by simpa [zg] using xA .u32 v j o hj ho
  | cons d o=>
   refine zc.run hmix Wd [2,3,5,6,16,17,19,20] 400 (T:=.ite (decide ((↑i:Int)<y.length)) (.side (inR .u32 ((↑v:Int)*(10:Int))) (.side ((0:Int)≤i∧(↑i:Int)<y.length) (.side (inR .u8 ((↑(UInt8.toNat (y.getD (↑i:Int).toNat (0:UInt8))):Int) - (48:Int))) (.side (inR .u32 ((↑(UInt8.toNat (y.getD (↑i:Int).toNat (0:UInt8))):Int) - (48:Int))) (.side (inR .u32 ((↑v:Int)*(10:Int)+((↑(UInt8.toNat (y.getD (↑i:Int).toNat (0:UInt8))):Int) - (48:Int)))) (.side (inR .i64 ((↑i:Int)+(1:Int))) (.leaf (.back 1 [(2,.ptr 0 0),(3,.ptr 1 0),(5,.str y),(6,.int .u32 ((↑v:Int)*(10:Int)+((↑(UInt8.toNat (y.getD (↑i:Int).toNat (0:UInt8))):Int) - (48:Int)))),(16,.undef),(17,.undef),(19,.int .i64 y.length),(20,.int .i64 ((↑i:Int)+(1:Int)))] [.box [.bool false,.nils],.box [.bool neg,.osl 4 1 0 (o.length+1)],.box [.str b],.arr 1 1 (natG .u32 [d]),.arr (o.length+1) 1 (natG .u32 (d::o))])))))))) (.side (0=0∧o.length+1≤o.length+1∧(o.length+1+1)*4≤140737488355328) (.leaf (.back 0 [(2,.ptr 0 0),(3,.ptr 1 0),(5,.str y),(6,.int .u32 v),(16,.undef),(17,.undef),(19,.int .i64 y.length),(20,.int .i64 i)] [.box [.bool false,.nils],.box [.bool neg,.osl 4 1 0 (o.length+1+1)],.box [.str b],.arr 1 1 (natG .u32 [d]),.arr (o.length+1+1) 1 (appG (o.length+1) (natG .u32 (d::o)) (zg (zh 1 [.int .u32 v]) 0)),.arr 1 1 (zh 1 [.int .u32 v])])))) (by kernel_rfl) ?_
   simp only [Tree.holds,zd,inR,lo,hi,Int.toNat_natCast,ei]
   refine⟨fun hlt=> ?_,fun hge=> ?_⟩
   ·have hlt:i<y.length:=by simp at hlt; omega
    have h1:=hdig hlt
    have h2:=hnb hlt
    have h3:=hnext hlt
    generalize (y.getD i 0).toNat=c at h1 h3 ⊢
    iterate 6 refine⟨by omega,fun _=> ?_⟩
    rw [if_pos trivial]
    refine⟨⟨i+1,hlt⟩,by show y.length - (i+1)<y.length - i; omega,?_,by simp [HR,zb],by kernel_rfl,by simp [HR]⟩
    simp [SR,h3]; omega
   ·have hge:i=y.length:=by simp at hge; omega
    subst hge
    rw [List.take_length] at hv
    refine⟨⟨trivial,Nat.le_refl _,by simp only [List.length_cons] at ho; omega⟩,fun _=> ?_⟩
    rw [if_neg (by decide),hv]
    refine⟨by simp,?_,by kernel_rfl,by simp [HR]⟩
    simp only [List.cons_append,HR]
    refine⟨by simp,by simp,by simp,⟨rfl,rfl,zb _ _ _⟩,⟨by simp,rfl,?_⟩,trivial⟩
    have:=yw (k:=.u32) (l:=d::o) (v:=((v:Nat):Int)) (by omega)
    simpa using this
theorem Y2{O:Nat→Prop}{W:World}{σ1:List SE}(l:Nat)(neg:Bool)(b:List UInt8)(o:List Nat)(ho:o.length≤1000000)(x:Grp)(X:Prop)(Hx:Heap) :
  zE (some l) Tryz.prog (bare Tryz.f147) O 3 W σ1 (fun d kv' h'=>LeK 3 Tryz.f147.ntmps [] h' [] (HR neg b (o++[decB x.1]))) (fun _ h'=>X∧LeK 3 Tryz.f147.ntmps [] h' [] Hx) (roundOf K147 0) (mk Tryz.f147.ntmps ((5,.str x.1.data.toList)::(17,.str x.1.data.toList)::KR) (HR neg b o)):=by
 obtain⟨x,hx9,hxd⟩:=x
 simp only
 have hxl:x.data.toList.length=x.size:=by rw [Array.length_toList]; rfl
 have hdB:decB x=numD x.data.toList:=rfl
 rw [hdB]
 generalize x.data.toList=y at hxd hxl
 have core:zE (some l) Tryz.prog (bare Tryz.f147) O 3 W σ1 (fun d kv' h'=>LeK 3 Tryz.f147.ntmps [] h' [] (HR neg b (o++[numD y]))) (fun _ h'=>X∧LeK 3 Tryz.f147.ntmps [] h' [] Hx) (.code (.loop (lps (roundOf K147 0) 0).1)::(lps (roundOf K147 0) 0).2)
   (mk Tryz.f147.ntmps [(2,.ptr 0 0),(3,.ptr 1 0),(5,.str y),(6,.int .u32 0),(16,.fn 165 [] [.ptr 2 0]),(17,.str y),(19,.int .i64 (y.length:Int)),(20,.int .i64 0)] (HR neg b o)):=by
  exact zah l neg b o ho y hxd (by omega) X Hx
 cases o with
 | nil=>
  refine zc.run hmix Wd [2,3,5,6,16,17,19,20] 400 (T:=.leaf (.loop (Prod.fst (lps (roundOf K147 0) 0)) (Prod.snd (lps (roundOf K147 0) 0)) [(2,.ptr 0 0),(3,.ptr 1 0),(5,.str y),(6,.int .u32 0),(16,.fn 165 [] [.ptr 2 0]),(17,.str y),(19,.int .i64 y.length),(20,.int .i64 0)] [.box [.bool false,.nils],.box [.bool neg,.nils],.box [.str b]])) (by kernel_rfl) ?_
  simp only [Tree.holds,zd]
  exact core
 | cons d o=>
  refine zc.run hmix Wd [2,3,5,6,16,17,19,20] 400 (T:=.leaf (.loop (Prod.fst (lps (roundOf K147 0) 0)) (Prod.snd (lps (roundOf K147 0) 0)) [(2,.ptr 0 0),(3,.ptr 1 0),(5,.str y),(6,.int .u32 0),(16,.fn 165 [] [.ptr 2 0]),(17,.str y),(19,.int .i64 y.length),(20,.int .i64 0)] [.box [.bool false,.nils],.box [.bool neg,.osl 4 1 0 (o.length+1)],.box [.str b],.arr 1 1 (natG .u32 [d]),.arr (o.length+1) 1 (natG .u32 (d::o))])) (by kernel_rfl) ?_
  simp only [Tree.holds,zd]
  exact core
theorem zet(neg:Bool)(b:List UInt8)(o:List Nat):∀ x∈HR neg b o,alive x:=by
 cases o with
 | nil=>simp [HR,alive]
 | cons d o=>simp [HR,alive]
theorem zb3{O:Nat→Prop}{w0:World}{Q:AV×Heap→Prop}(neg:Bool)(b:List UInt8)(hb:allD b)(hb0:b≠[])(hbl:b.length≤1000000)(hq:Q (.agg [.bool neg,magS (numD b)],[])) :
  zc Tryz.prog Tryz.f147 O 0 w0 [] (fun _ _ _=>False) (RetR zbz 0 Q) (.code (rfs K147 0).1::(rfs K147 0).2) (mk Tryz.f147.ntmps KR (HR neg b [])):=by
 let s:ByteArray:=⟨b.toArray⟩
 have hsl:s.data.toList=b:=rfl
 have hss:s.size=b.length:=by simp [s,ByteArray.size]
 refine zc.range (tg:=16) (tp:=17) (td:=5) (α:=Grp) (by kernel_rfl) (cap:=[.ptr 2 0]) (enters_of Tryz.func165 (by kernel_rfl) rfl) (fun x=>.str x.1.data.toList) (fun pre=>HR neg b (pre.map fun x=>decB x.1)) (fun _=>[]) (fun _=>False) (fun xs=>xs.map (·.1)=chunks s s.size) (fun pre=>pre.map (·.1) <+: chunks s s.size) (chunks s s.size).length 3
  (by kernel_rfl) (by decide +kernel) (by decide +kernel) (fun x t c y h=>by cases h) ⟨by simp [KR],by simp [HR],by kernel_rfl,Nat.zero_le _⟩ (by kernel_rfl) (Nat.zero_le _) (fun pre=>zet _ _ _) (fun pre c hc=>by cases hc) ?_ ?_ ?_ (fun _ _ h=>h.elim)
 ·
  intro w σ a hm vb hvb
  simp only [RepL] at hvb
  obtain⟨v,r,rfl,hv,rfl⟩:=hvb
  simp only [Rep] at hv
  obtain⟨e,ad,he,had,rfl⟩:=hv
  have hcell:∀ (W:World) (σ':List SE) (o:List Nat),HRep (Go.Sx.Own O σ') W σ' (HR neg b o)→∀ e' ad,σ'[2]?=some e'→e'.ad=some ad→W.cell? ⟨ad.block,ad.off+0,none⟩=some (.string s):=by
   intro W σ' o hp e' ad he' had'
   have hb2:(HR neg b o)[2]?=some (.box [.str b]):=by cases o<;>rfl
   obtain⟨ad',vs,el,h1,h2,h3,h4⟩:=hp.blk 2 e' _ he' hb2
   rw [had'] at h1; cases h1
   simp only [RepL,Rep] at h4
   obtain⟨v,r,rfl,rfl,rfl⟩:=h4
   simp [World.cell?,h3,h2,s]
  refine⟨fun W=>W.cell? ⟨ad.block,ad.off+0,none⟩=some (.string s),fun x=>.string x.1,?_,?_,?_⟩
  ·exact Tryz.Je (fun x=>x.size≤9∧allD x.data.toList) ⟨ad.block,ad.off+0,none⟩ s (Y9 s (hsl▸hb) s.size (Nat.le_refl _)) (by omega) w (hcell w σ [] hm.hp e ad he had)
  ·intro pre W σ' hM
   refine⟨?_,fun x=>by simp [Rep]⟩
   have ht:=hM.tm 16
   have h16:(mk Tryz.f147.ntmps KR (HR neg b (pre.map fun x=>decB x.1))).tmps.getD 16 .undef = .fn 165 [] [.ptr 2 0]:=by kernel_rfl
   have ht0:=hm.tm 16
   have h160:(mk Tryz.f147.ntmps KR (HR neg b (([]:List Grp).map fun x=>decB x.1))).tmps.getD 16 .undef = .fn 165 [] [.ptr 2 0]:=by kernel_rfl
   rw [h16] at ht
   rw [h160] at ht0
   simp only [TRep,Rep,RepL] at ht ht0
   obtain⟨va,vb',h1,_,v,r,h2,⟨e1,ad1,h3,h4,h5⟩,h6⟩:=ht
   obtain⟨va',vb2,g1,_,v',r',g2,⟨e2,ad2,g3,g4,g5⟩,g6⟩:=ht0
   rw [he] at g3; cases g3
   rw [had] at g4; cases g4
   rw [g1] at h1
   simp only [Value.func.injEq] at h1
   have h7:vb2=vb':=by
    have:=h1.2.2
    simpa using this
   rw [g2,h2,g5,h5] at h7
   simp only [List.cons.injEq,Value.pointer.injEq,Option.some.injEq] at h7
   have h8:=hcell W σ' _ hM.hp e1 ad1 h3 h4
   rw [← h7.1] at h8
   exact h8
  ·intro W l o o' hl ho hoc hK
   exact Xh (grownBy_putObj' W l o') (fun r e=>by cases e; exact⟨o,ho,hoc⟩) hK
 ·
  intro l pre x hlen W σ1
  have hpl:(pre.map fun x=>decB x.1).length≤1000000:=by
   have:=Q1 s s.size
   simp; omega
  have:=Y2 (O:=O) (W:=W) (σ1:=σ1) l neg b (pre.map fun x=>decB x.1) hpl x False []
  simp only [List.map_append,List.map_cons,List.map_nil]
  exact this
 ·
  intro xs hxs
  have ho:xs.map (fun x=>decB x.1)=(chunks s s.size).map decB:=by rw [← hxs,List.map_map]; rfl
  have hv:val (xs.map fun x=>decB x.1)=numD b:=by
   rw [ho,Yl s s.size (Nat.le_refl _),List.take_of_length_le (by rw [Array.length_toList]; exact Nat.le_refl _)]
  have hdg:dig (xs.map fun x=>decB x.1):=by
   intro d hd
   obtain⟨x,_,rfl⟩:=List.mem_map.1 hd
   exact zhg x.2.2 x.2.1
  have hpos:0<s.size:=by rw [hss]; exact List.length_pos_iff.2 hb0
  have hle:(xs.map fun x=>decB x.1).length≤1000000:=by
   rw [ho,List.length_map]
   have:=Q1 s s.size
   omega
  have hne:xs.map (fun x=>decB x.1)≠[]:=by
   rw [ho,vN s hpos]; simp
  generalize xs.map (fun x=>decB x.1)=l at hv hdg hle hne
  cases l with
  | nil=>exact absurd rfl hne
  | cons d o=>
   simp only [List.length_cons] at hle
   refine zc.run hmix Wd [2,3,5,6,16,17,19,20] 400 (T:=.ex (fun(u:List Nat)=>u.length=o.length+1∧0+(o.length+1)≤o.length+1∧o.length+1<4611686018427387904∧eqG (o.length+1) 1 (natG .u32 (d::o)) (natG .u32 u)∧dig (List.take (o.length+1) (List.drop 0 u))) fun n=>.all (fun(x:Nat)=>x=val (List.take (o.length+1) (List.drop 0 n))) fun n=>.leaf (.ret [.agg [.bool neg,.osl 4 1 0 (canon n).length]] [.box [.bool neg,.osl 4 1 0 (canon n).length],.box [.bool neg,.osl 4 1 0 (canon n).length],.box [.str b],.arr 1 1 (natG .u32 [d]),.arr (o.length+1) 1 (natG .u32 (d::o))])) (by kernel_rfl) ?_
   simp only [Tree.holds,zd]
   have htk:(List.take (o.length+1) (List.drop 0 (d::o)))=d::o:=by simp
   refine⟨d::o,⟨rfl,by omega,by omega,zb _ _ _,by rw [htk]; exact hdg⟩,⟨_,rfl⟩,?_⟩
   intro X hX
   have hX:X=numD b:=by rw [htk,hv] at hX; exact hX
   subst hX
   refine RetR.out0 hq (fun h=>by cases h) ?_
   simp only [resV,exp2,exp1,List.map_cons,List.map_nil,exp0,ren0,z5,frz1,jx,List.getElem?_cons_zero,List.getElem?_cons_succ,if_true,eqA2,eqA,eqL0,eqA0,magS,natS,true_and,and_true]
   exact j9 (u:=d::o) (off:=0) (n:=o.length+1) (by simpa using hdg) (by simpa using hv)
theorem zhw:zf Tryz.prog 147 zbz:=by
 refine zi (fn:=Tryz.f147) (c:=Tryz.f147.body.getD .skip) rfl rfl rfl fun p hp O w0 Q hq=> ?_
 obtain⟨neg,b⟩:=p
 obtain⟨hb,hb0,hbl⟩:=hp
 replace hq:=hq _ rfl
 simp only at hb hb0 hbl hq
 obtain⟨s,hs⟩:∃ s,sgn neg b=s:=⟨_,rfl⟩
 simp only [hs]
 refine zc.run hmix Wd [2,3,5,6,16,17,19,20] 400 (T:=.side ((0:Int)≤0∧(0:Int)<s.length) (.ite (decide ((↑(UInt8.toNat (s.getD 0 (0:UInt8))):Int)=45)) (.side ((0:Int)≤1∧(1:Int)≤s.length) (.ex (fun(x:List UInt8)=>eqL [AV.str (List.drop 1 (List.take s.length s))] [AV.str x]∧eqH [] []∧0=0∧True) fun n=>.all (fun(x:Unit)=>True) fun n_1=>.leaf (.range (Prod.fst (rfs K147 0)) (Prod.snd (rfs K147 0)) [(2,.ptr 0 0),(3,.ptr 1 0),(5,.undef),(6,.undef),(16,.fn 165 [] [.ptr 2 0]),(17,.undef),(19,.undef),(20,.undef)] [.box [.bool false,.nils],.box [.bool true,.nils],.box [.str n]]))) (.ex (fun(x:List UInt8)=>eqL [AV.str s] [AV.str x]∧eqH [] []∧0=0∧True) fun n=>.all (fun(x:Unit)=>True) fun n_1=>.leaf (.range (Prod.fst (rfs K147 0)) (Prod.snd (rfs K147 0)) [(2,.ptr 0 0),(3,.ptr 1 0),(5,.undef),(6,.undef),(16,.fn 165 [] [.ptr 2 0]),(17,.undef),(19,.undef),(20,.undef)] [.box [.bool false,.nils],.box [.bool false,.nils],.box [.str n]])))) (by kernel_rfl) ?_
 subst hs
 have hmain:=zb3 (O:=O) (w0:=w0) neg b hb hb0 hbl hq
 obtain⟨c,b',rfl⟩:=List.exists_cons_of_ne_nil hb0
 have hc:=hb c (by simp)
 simp only [Tree.holds,zd]
 cases neg with
 | true=>
  simp only [sgn,if_true]
  refine⟨by simp; omega,fun _=>⟨fun _=>⟨by simp; omega,fun _=> ?_⟩,fun h=>by simp at h⟩⟩
  refine⟨c::b',⟨by simp,by simp,by simp⟩,⟨(),trivial⟩,fun _ _=>hmain⟩
 | false=>
  simp only [sgn,Bool.false_eq_true,if_false]
  refine⟨by simp,fun _=>⟨fun h=> ?_,fun _=> ?_⟩⟩
  ·simp at h; omega
  ·refine⟨c::b',⟨by simp,by simp,by simp⟩,⟨(),trivial⟩,fun _ _=>hmain⟩
noncomputable def K135:List Go.Sx.Item:=[.code (Tryz.f135.body.getD .skip)]
noncomputable def K132:List Go.Sx.Item:=[.code (Tryz.f132.body.getD .skip)]
def wc(l:List Nat)(n i:Nat):List Nat:=(List.range l.length).map fun p=>if p<n∧(p<i∨n - i≤p) then l.getD (n - 1 - p) 0 else l.getD p 0
theorem uI(l:List Nat)(n i:Nat):(wc l n i).length=l.length:=by simp [wc]
theorem Wg{l:List Nat}{n i p:Nat}(h:p<l.length):(wc l n i).getD p 0=if p<n∧(p<i∨n - i≤p) then l.getD (n - 1 - p) 0 else l.getD p 0:=by
 simp [wc,List.getD,h]
theorem Xc(l:List Nat)(n:Nat):wc l n 0=l:=by
 apply List.ext_getElem (by simp [wc])
 intro p h1 h2
 simp only [wc,List.getElem_map,List.getElem_range]
 rw [if_neg (by omega)]; simp [h2]
theorem Yf{l:List Nat}{n i:Nat}(hn:n≤l.length)(hi2:i<n - 1 - i):((wc l n i).set i ((wc l n i).getD (n - 1 - i) 0)).set (n - 1 - i) ((wc l n i).getD i 0)=wc l n (i+1):=by
 rw [Wg (by omega),Wg (by omega),if_neg (by omega),if_neg (by omega)]
 apply List.ext_getElem (by simp [wc])
 intro p h1 h2
 rw [uI] at h2
 simp only [List.getElem_set,wc,List.getElem_map,List.getElem_range]
 by_cases ha:n - 1 - i=p
 ·rw [if_pos ha,if_pos (by omega)]; congr 1; omega
 ·rw [if_neg ha]
  by_cases hb:i=p
  ·subst hb; rw [if_pos rfl,if_pos (by omega)]
  ·rw [if_neg hb]
   by_cases hc:p<n∧(p<i∨n - i≤p)
   ·rw [if_pos hc,if_pos (by omega)]
   ·rw [if_neg hc,if_neg (by omega)]
theorem zb8{l:List Nat}{n i:Nat}(hn:n≤l.length)(hi2:n - 1 - i≤i):wc l n i=(l.take n).reverse++l.drop n:=by
 apply List.ext_getElem (by simp [wc]; omega)
 intro p h1 h2
 rw [uI] at h1
 simp only [wc,List.getElem_map,List.getElem_range]
 have hl:(l.take n).reverse.length=n:=by simp; omega
 by_cases ha:p<n
 ·rw [List.getElem_append_left (by omega),List.getElem_reverse,List.getElem_take]
  have e:(l.take n).length - 1 - p=n - 1 - p:=by simp; omega
  simp only [e]
  by_cases hc:p<i∨n - i≤p
  ·rw [if_pos ⟨ha,hc⟩]; simp [show n - 1 - p<l.length by omega]
  ·rw [if_neg (fun h=>hc h.2)]
   have:n - 1 - p=p:=by omega
   simp [this,h1]
 ·rw [if_neg (fun h=>ha h.1),List.getElem_append_right (by omega)]
  simp only [hl,List.getElem_drop]
  have:n+(p - n)=p:=by omega
  simp [this,h1]
def yO:Ctr:=ctrT false false (fun p:List Nat×Nat=>[.osl 0 1 0 p.2]) (fun p=>[.arr p.1.length 1 (natG .u8 p.1)]) (fun p=>p.2≤p.1.length∧p.1.length<2^62) (fun _ (_:Unit)=>True) (fun p _=>(.tup [],[.arr p.1.length 1 (natG .u8 ((p.1.take p.2).reverse++p.1.drop p.2))]))
def SV(n i:Nat):KV:=[(0,.osl 0 1 0 n),(2,.int .i64 (i:Int)),(3,.int .i64 ((n:Int) - 1 - i))]
theorem Qq:zf Tryz.prog 135 yO:=by
 refine qI (fn:=Tryz.f135) (c:=Tryz.f135.body.getD .skip) rfl rfl rfl (fun h=>by cases h) fun p hp O w0 σ0 Q hl0 hq=> ?_
 obtain⟨l,n⟩:=p
 obtain⟨hn,hl⟩:=hp
 replace hq:=hq () trivial
 simp only at hn hl hq
 refine zc.run hmix zD [0,2,3] 400 (T:=Tree.side (inR IntKind.i64 ((↑n:Int) - (1:Int))) (Tree.leaf (wa.loop (Prod.fst (lps K135 (0:Nat))) (Prod.snd (lps K135 (0:Nat))) [((0:Nat),AV.osl (0:Nat) (1:Nat) (0:Nat) n),((2:Nat),AV.int .i64 (0:Int)),((3:Nat),AV.int .i64 ((↑n:Int) - (1:Int)))] [Blk.arr l.length (1:Nat) (natG .u8 l)]))) (by kernel_rfl) ?_
 simp only [Tree.holds,zd,inR,lo,hi]
 refine⟨by omega,fun _=> ?_⟩
 refine zc.loop (ι:={i:Nat // i≤n}) (fun i=>SV n i.1) (fun i=>[.arr l.length 1 (natG .u8 (wc l n i.1))]) (fun i=>n - i.1) ⟨0,Nat.zero_le _⟩ 0 ?_ ?_ (by kernel_rfl)
 ·exact⟨by simp [SV],by simp [Xc,zb],by kernel_rfl,Nat.le_refl _⟩
 ·rintro⟨i,hin⟩
  obtain⟨u,hu⟩:∃ u,wc l n i=u:=⟨_,rfl⟩
  have hul:u.length=l.length:=by rw [← hu,uI]
  simp only [hu,← hul]
  refine zc.run hmix zD [0,2,3] 400 (T:=Tree.ite (decide ((↑i:Int)<(↑n:Int) - (1:Int) - (↑i:Int))) (Tree.side ((0:Int)≤(↑n:Int) - (1:Int) - (↑i:Int)∧(↑n:Int) - (1:Int) - (↑i:Int)<(↑n:Int)) (Tree.side ((0:Int)≤(↑i:Int)∧(↑i:Int)<(↑n:Int)) (Tree.side ((0:Int)≤(↑i:Int)∧(↑i:Int)<(↑n:Int)) (Tree.side ((0:Int)≤(↑n:Int) - (1:Int) - (↑i:Int)∧(↑n:Int) - (1:Int) - (↑i:Int)<(↑n:Int)) (Tree.side (inR IntKind.i64 ((↑i:Int)+(1:Int))) (Tree.side (inR IntKind.i64 ((↑n:Int) - (1:Int) - (↑i:Int) - (1:Int))) (Tree.leaf (wa.back (0:Nat) [((0:Nat),AV.osl (0:Nat) (1:Nat) (0:Nat) n),((2:Nat),AV.int .i64 ((↑i:Int)+(1:Int))),((3:Nat),AV.int .i64 ((↑n:Int) - (1:Int) - (↑i:Int) - (1:Int)))] [Blk.arr u.length (1:Nat) (updG (updG (natG .u8 u) ((0:Nat)+Int.toNat (↑i:Int)) (0:Nat) [AV.int .u8 (↑(u.getD ((0:Nat)+Int.toNat ((↑n:Int) - (1:Int) - (↑i:Int))) (0:Nat)):Int)]) ((0:Nat)+Int.toNat ((↑n:Int) - (1:Int) - (↑i:Int))) (0:Nat) [AV.int .u8 (↑(u.getD ((0:Nat)+Int.toNat (↑i:Int)) (0:Nat)):Int)])])))))))) (Tree.leaf (wa.ret [] [Blk.arr u.length (1:Nat) (natG .u8 u)]))) (by kernel_rfl) ?_
  simp only [Tree.holds,zd,inR,lo,hi,Int.toNat_natCast]
  refine⟨fun hlt=> ?_,fun hge=> ?_⟩
  ·have hlt:i<n - 1 - i:=by simp at hlt; omega
   have ej:((n:Int) - 1 - i).toNat=n - 1 - i:=by omega
   rw [ej]
   iterate 6 refine⟨by omega,fun _=> ?_⟩
   rw [if_pos trivial]
   have hs:=Yf (l:=l) hn hlt
   rw [hu] at hs
   refine⟨⟨i+1,by omega⟩,by show n - (i+1)<n - i; omega,by simp [SV]; omega,?_,by kernel_rfl,Nat.le_refl _⟩
   rw [← hs]
   refine⟨⟨rfl,rfl,?_⟩,trivial⟩
   have h1:=vV (k:=.u8) (l:=u) (v:=(u.getD (n - 1 - i) 0:Nat)) (i:=i) (by omega) (by omega)
   have h2:=vV (k:=.u8) (l:=u.set i (u.getD (n - 1 - i) 0)) (v:=(u.getD i 0:Nat)) (i:=n - 1 - i) (by omega) (by simp; omega)
   simp only [List.length_set,Int.toNat_natCast] at h1 h2
   refine xC ?_ h2
   intro p o hp ho
   have:=h1 p o hp ho
   simp only [updG,Nat.zero_add] at this ⊢
   split
   ·rfl
   ·exact this
  ·have hge:n - 1 - i≤i:=by simp at hge; omega
   have hr:=zb8 (l:=l) hn hge
   rw [hu] at hr
   refine⟨[0],rfl,by simp,by simp,by simp [yO,ctrT],.tup [],_,qo (by simp [resV,exp2,eqA2,eqL1]),.inl ?_,rfl,hq⟩
   simp [expH,expB,hr,zb]
   omega
def ke(neg:Bool)(x:Nat):Blk:=.box [.bool neg,magS x]
def SW(x i n:Nat):KV:=[(1,.ptr 0 0),(4,.osl 1 1 0 n),(6,.undef),(12,magS x),(13,.int .i64 ((canon x).length:Int)),(14,.int .i64 (i:Int)),(18,.undef)]
def SW2(x i n g k:Nat):KV:=[(1,.ptr 0 0),(4,.osl 1 1 0 n),(6,.int .u32 (g:Int)),(12,magS x),(13,.int .i64 ((canon x).length:Int)),(14,.int .i64 (i:Int)),(18,.int .i64 (k:Int))]
noncomputable def G4:Nat→Option Ctr:=fun f=>if f=135 then some (yO) else none
theorem Um:∀ g c,G4 g=some c→zf Tryz.prog g c:=okIf Qq (zx)
theorem QC(k:IntKind)(l:List Nat)(n:Nat)(hn:n≤l.length):vA n (zg (natG k l) 0)=(l.take n).map UInt8.ofNat:=by
 apply List.ext_getElem (by simp [vA]; omega)
 intro j h1 h2
 have hj:j<n:=by simpa [vA] using h1
 simp [vA,zg,natG,Sx.byteOf,show j<l.length by omega]
def wb(x i:Nat):List Nat:=(decs (9*i) (val ((canon x).take i))).map (48 + ·)
theorem WV(x i:Nat):(wb x i).length=9*i:=by simp [wb,yX]
theorem UH(i:Nat):B^i=10^(9*i):=by rw [Nat.pow_mul]
theorem zg5{x i:Nat}(h:i<(canon x).length):wb x i++(decs 9 ((canon x).getD i 0)).map (48 + ·)=wb x (i+1):=by
 have h1:=qn (ju (zk x) i)
 rw [List.length_take,Nat.min_eq_left (by omega),UH] at h1
 simp only [wb]
 rw [← List.map_append,← Zk _ _ _ _ h1,zw,UH]
 rfl
theorem Yy(x:Nat):wb x (canon x).length=(dec x).map (48 + ·)++List.replicate (9*(canon x).length - (dec x).length) 48:=by
 have h:x<10^(9*(canon x).length):=by
  have:=qn (zk x)
  rwa [zn,UH] at this
 simp only [wb,List.take_length,zn,zd8 h,Ten.padN,List.map_append,List.map_replicate,dec]
def Qn:Ctr:=ctrP true (fun p:Bool×Nat=>[.agg [.bool p.1,magS p.2]]) (fun p=>(canon p.2).length<1000000) (fun p r=>r=wr p.1 p.2) (fun _ r=>(.tup [.str r.1,.int .i64 r.2],[]))
theorem zap{O:Nat→Prop}{w0:World}{Q:AV×Heap→Prop}{Hs:Nat→KV→Heap→Prop}(neg:Bool)(x:Nat)(hx:(canon x).length<1000000)(hx0:x≠0)(hq:Q (.tup [.str (wr neg x).1,.int .i64 (wr neg x).2],[]))(b:List Nat)(hb:b=wb x (canon x).length) :
  zc Tryz.prog Tryz.f132 O 0 w0 [] Hs (RetR Qn 0 Q) (.code (.loop (lps (inside K132 0) 1).1)::(lps (inside K132 0) 1).2) (mk Tryz.f132.ntmps (SW x (canon x).length b.length) [ke neg x,.arr b.length 1 (natG .u8 b)]):=by
 have hdl:=Vb hx0
 have hle:(dec x).length≤9*(canon x).length:=by
  have:=qn (zk x)
  rw [zn,UH] at this
  exact Z6 this
 have hbl:b.length=9*(canon x).length:=by rw [hb,WV]
 have hget:∀ p,p<b.length→b.getD p 0=48+(dec x).getD p 0:=by
  intro p hp
  rw [hb,Yy]
  by_cases h:p<(dec x).length
  ·rw [yf (by simpa using h),UX (z:=0) h]
  ·rw [Qp (by simpa using Nat.le_of_not_lt h),zfa (by simp; omega),zbp (Nat.le_of_not_lt h)]
 have htake:b.take (dec x).length=(dec x).map (48 + ·):=by
  rw [hb,Yy,List.take_append_of_le_length (by simp),List.take_of_length_le (by simp)]
 refine zc.loop (ι:={n:Nat // (dec x).length≤n∧n≤b.length}) (fun n=>SW x (canon x).length n.1) (fun _=>[ke neg x,.arr b.length 1 (natG .u8 b)]) (fun n=>n.1) ⟨b.length,by omega,Nat.le_refl _⟩ 0 ?_ ?_ (by kernel_rfl)
 ·exact⟨by simp [SW,magS,natS,zb],by simp [ke,magS,natS,zb],by kernel_rfl,Nat.zero_le _⟩
 ·rintro⟨n,hn1,hn2⟩
  obtain⟨L,hL⟩:∃ L,(canon x).length=L:=⟨_,rfl⟩
  simp only [hL]
  refine zc.run hmix Um [1,4,6,12,13,14,18] 400 (T:=Tree.side (inR IntKind.i64 ((↑n:Int) - (1:Int))) (Tree.side ((0:Int)≤(↑n:Int) - (1:Int)∧(↑n:Int) - (1:Int)<(↑n:Int)) (Tree.ite (decide ((↑(b.getD ((0:Nat)+Int.toNat ((↑n:Int) - (1:Int))) (0:Nat)):Int)=(48:Int))) (Tree.side (inR IntKind.i64 ((↑n:Int) - (1:Int))) (Tree.side ((0:Int)≤(↑n:Int) - (1:Int)∧(↑n:Int) - (1:Int)≤(↑n:Int)) (Tree.leaf (wa.back (0:Nat) [((1:Nat),AV.ptr (0:Nat) (0:Nat)),((4:Nat),AV.osl (1:Nat) (1:Nat) (0:Nat) (Int.toNat ((↑n:Int) - (1:Int)) - (0:Nat))),((6:Nat),AV.undef),((12:Nat),AV.sl (canon x).length (1:Nat) (natG .u32 (canon x))),((13:Nat),AV.int .i64 (↑(canon x).length:Int)),((14:Nat),AV.int .i64 (↑L:Int)),((18:Nat),AV.undef)] [Blk.box [AV.bool neg,AV.sl (canon x).length (1:Nat) (natG .u32 (canon x))],Blk.arr b.length (1:Nat) (natG .u8 b)])))) (Tree.ite (decide ((1000:Int)<(↑n:Int))) (Tree.leaf (wa.ret [AV.str #[].toList,AV.int .i64 (14:Int)] [Blk.box [AV.bool neg,AV.sl (canon x).length (1:Nat) (natG .u32 (canon x))],Blk.arr b.length (1:Nat) (natG .u8 b)])) (Tree.ite neg (Tree.side ((0:Nat)=(0:Nat)∧n≤List.length b∧(n+(1:Nat))*(1:Nat)≤(140737488355328:Nat)) (Tree.ex (fun(x:List Nat×Nat)=>eqL [AV.osl (0:Nat) (1:Nat) (0:Nat) (n+(1:Nat))] [AV.osl (0:Nat) (1:Nat) (0:Nat) (Prod.snd x)]∧eqH [Blk.arr (n+(1:Nat)) (1:Nat) (appG n (natG .u8 b) (zg (zh (1:Nat) [AV.int .u8 (45:Int)]) (0:Nat)))] [Blk.arr (Prod.fst x).length (1:Nat) (natG .u8 (Prod.fst x))]∧(1:Nat)=(1:Nat)∧Prod.snd x≤List.length (Prod.fst x)∧List.length (Prod.fst x)<(4611686018427387904:Nat)) fun(n_1:List Nat×Nat)=>Tree.all (fun(x:Unit)=>True) fun(n_2:Unit)=>Tree.side (∀ (j:Nat),j<n+(1:Nat)→∃ (b:UInt8),AV.int .u8 (↑(List.getD (List.reverse (List.take (Prod.snd n_1) (Prod.fst n_1))++List.drop (Prod.snd n_1) (Prod.fst n_1)) ((0:Nat)+j) (0:Nat)):Int)=AV.int .u8 (↑(UInt8.toNat b):Int)) (Tree.leaf (wa.ret [AV.str (vA (n+(1:Nat)) (zg (natG .u8 (List.reverse (List.take (Prod.snd n_1) (Prod.fst n_1))++List.drop (Prod.snd n_1) (Prod.fst n_1))) (0:Nat))),AV.int .i64 (0:Int)] [Blk.box [AV.bool neg,AV.sl (canon x).length (1:Nat) (natG .u32 (canon x))],Blk.arr (Prod.fst n_1).length (1:Nat) (natG .u8 (List.reverse (List.take (Prod.snd n_1) (Prod.fst n_1))++List.drop (Prod.snd n_1) (Prod.fst n_1))),Blk.arr (1:Nat) (1:Nat) (zh (1:Nat) [AV.int .u8 (45:Int)])])))) (Tree.ex (fun(x:List Nat×Nat)=>eqL [AV.osl (0:Nat) (1:Nat) (0:Nat) n] [AV.osl (0:Nat) (1:Nat) (0:Nat) (Prod.snd x)]∧eqH [Blk.arr b.length (1:Nat) (natG .u8 b)] [Blk.arr (Prod.fst x).length (1:Nat) (natG .u8 (Prod.fst x))]∧(1:Nat)=(1:Nat)∧Prod.snd x≤List.length (Prod.fst x)∧List.length (Prod.fst x)<(4611686018427387904:Nat)) fun(n_1:List Nat×Nat)=>Tree.all (fun(x:Unit)=>True) fun(n_2:Unit)=>Tree.side (∀ (j:Nat),j<n→∃ (b:UInt8),AV.int .u8 (↑(List.getD (List.reverse (List.take (Prod.snd n_1) (Prod.fst n_1))++List.drop (Prod.snd n_1) (Prod.fst n_1)) ((0:Nat)+j) (0:Nat)):Int)=AV.int .u8 (↑(UInt8.toNat b):Int)) (Tree.leaf (wa.ret [AV.str (vA n (zg (natG .u8 (List.reverse (List.take (Prod.snd n_1) (Prod.fst n_1))++List.drop (Prod.snd n_1) (Prod.fst n_1))) (0:Nat))),AV.int .i64 (0:Int)] [Blk.box [AV.bool neg,AV.sl (canon x).length (1:Nat) (natG .u32 (canon x))],Blk.arr (Prod.fst n_1).length (1:Nat) (natG .u8 (List.reverse (List.take (Prod.snd n_1) (Prod.fst n_1))++List.drop (Prod.snd n_1) (Prod.fst n_1)))])))))))) (by kernel_rfl) ?_
  have e1:((n:Int) - 1).toNat=n - 1:=by omega
  have e2:0+(n - 1)=n - 1:=by omega
  have e3:n - 1 - 0=n - 1:=by omega
  simp only [Tree.holds,zd,inR,lo,hi,e1,e2,e3]
  have hg:=hget (n - 1) (by omega)
  rw [hg]
  iterate 2 refine⟨by omega,fun _=> ?_⟩
  refine⟨fun hz=> ?_,fun hnz=>⟨fun hbig=> ?_,fun hsm=> ?_⟩⟩
  ·have hz:(dec x).getD (n - 1) 0=0:=by simp at hz ⊢; omega
   have hne:n≠(dec x).length:=by
    rintro rfl
    exact U3 hdl hz
   iterate 2 refine⟨by omega,fun _=> ?_⟩
   rw [if_pos trivial]
   exact⟨⟨n - 1,by omega,by omega⟩,by show n - 1<n; omega,by simp [SW,magS,natS,zb],by simp [ke,magS,natS,zb],by kernel_rfl,Nat.zero_le _⟩
  ·have hn:n=(dec x).length:=by
    rcases Nat.lt_or_ge (dec x).length n with h | h
    ·have:(dec x).getD (n - 1) 0=0:=by simp [List.getD,List.getElem?_eq_none (show(dec x).length≤n - 1 by omega)]
     rw [this] at hnz; simp at hnz
    ·omega
   subst hn
   have hbig:1000<(dec x).length:=by simp at hbig; omega
   simp only [wr,if_neg hx0,if_pos hbig] at hq
   exact RetR.scal hq rfl rfl
  ·have hn:n=(dec x).length:=by
    rcases Nat.lt_or_ge (dec x).length n with h | h
    ·have:(dec x).getD (n - 1) 0=0:=by simp [List.getD,List.getElem?_eq_none (show(dec x).length≤n - 1 by omega)]
     rw [this] at hnz; simp at hnz
    ·omega
   subst hn
   have hsm:¬ 1000<(dec x).length:=by simp at hsm; omega
   simp only [wr,if_neg hx0,if_neg hsm] at hq
   have hbyte:∀ (l:List Nat) (k:Nat),(∀ d∈l,d<256)→∀ j,j<k→∃ c:UInt8,AV.int .u8 ((l.getD (0+j) 0:Nat):Int) = .int .u8 (c.toNat:Int):=by
    intro l k hl j hj
    rw [Nat.zero_add]
    have:l.getD j 0<256:=by
     by_cases h:j<l.length
     ·have:=hl l[j] (List.getElem_mem h)
      simpa [List.getD,h] using this
     ·simp [List.getD,List.getElem?_eq_none (Nat.le_of_not_lt h)]
    refine⟨UInt8.ofNat (l.getD j 0),?_⟩
    simp only [AV.int.injEq,true_and]
    rw [UInt8.toNat_ofNat',Nat.mod_eq_of_lt this]
   have hb256:∀ d∈b,d<256:=by
    intro d hd
    rw [hb,Yy] at hd
    rcases List.mem_append.1 hd with hd | hd
    ·obtain⟨y,hy,rfl⟩:=List.mem_map.1 hd
     have:=Ten.zk x y hy
     simp only [Ten.B] at this
     omega
    ·have:=(List.mem_replicate.1 hd).2; omega
   have htx:((b.take (dec x).length).reverse).map UInt8.ofNat=txt x:=by
    rw [htake,txt,if_neg hx0,List.map_reverse,List.map_map]; rfl
   refine⟨fun hneg=> ?_,fun hneg=> ?_⟩
   ·subst hneg
    refine⟨⟨trivial,hn2,by omega⟩,fun _=> ?_⟩
    have hal:(b.take (dec x).length++[45]).length=(dec x).length+1:=by simp; omega
    refine⟨(b.take (dec x).length++[45],(dec x).length+1),⟨by simp,?_,by simp,by simp only [hal]; omega,by simp only [hal]; omega⟩,⟨(),trivial⟩,fun _ _=>⟨?_,fun _=> ?_⟩⟩
    ·simp only [eqH,eqB,hal]
     refine⟨⟨trivial,trivial,?_⟩,trivial⟩
     intro j o hj ho
     have:o=0:=by omega
     subst this
     simp only [appG,zg,zh,natG]
     have hl:(b.take (dec x).length).length=(dec x).length:=by simp; omega
     by_cases h:j<(dec x).length
     ·rw [if_pos h,yf (by omega),Ut h]
     ·have:j=(dec x).length:=by omega
      subst this
      rw [if_neg (by omega),Qp (by omega),hl,Nat.sub_self]
      rfl
    ·refine hbyte _ _ ?_
     intro d hd
     simp only [List.mem_append,List.mem_reverse] at hd
     rcases hd with hd | hd
     ·have:=List.mem_of_mem_take hd
      rcases List.mem_append.1 this with h | h
      ·exact hb256 d (List.mem_of_mem_take h)
      ·simp at h; omega
     ·have:=List.mem_of_mem_drop hd
      rcases List.mem_append.1 this with h | h
      ·exact hb256 d (List.mem_of_mem_take h)
      ·simp at h; omega
    ·refine RetR.scal hq rfl ?_
     simp only [resV]
     rw [QC _ _ _ (by simp; omega)]
     have ht:List.take ((dec x).length+1) (b.take (dec x).length++[45])=b.take (dec x).length++[45]:=List.take_of_length_le (by omega)
     rw [ht,List.take_append_of_le_length (by simp; omega),List.take_of_length_le (by simp; omega),List.reverse_append,List.map_append,htx]
     simp [sgn]
   ·subst hneg
    refine⟨(b,(dec x).length),⟨by simp,by simp [zb],by simp,hn2,by simp only [hbl]; omega⟩,⟨(),trivial⟩,fun _ _=>⟨?_,fun _=> ?_⟩⟩
    ·refine hbyte _ _ ?_
     intro d hd
     simp only [List.mem_append,List.mem_reverse] at hd
     rcases hd with hd | hd
     ·exact hb256 d (List.mem_of_mem_take hd)
     ·exact hb256 d (List.mem_of_mem_drop hd)
    ·refine RetR.scal hq rfl ?_
     simp only [resV]
     have hrl:((b.take (dec x).length).reverse).length=(dec x).length:=by simp; omega
     rw [QC _ _ _ (by rw [List.length_append,hrl]; omega),List.take_append_of_le_length (by omega),List.take_of_length_le (by omega),htx]
     simp [sgn]
theorem QG:zf Tryz.prog 132 Qn:=by
 refine zi (fn:=Tryz.f132) (c:=Tryz.f132.body.getD .skip) rfl rfl rfl fun p hp O w0 Q hq=> ?_
 obtain⟨neg,x⟩:=p
 replace hq:=hq _ rfl
 simp only at hp hq
 refine zc.run hmix Um [1,4,6,12,13,14,18] 400 (T:=Tree.ite (decide ((↑(canon x).length:Int)=(0:Int))) (Tree.leaf (wa.ret [AV.str #[(48:UInt8)].toList,AV.int .i64 (0:Int)] [Blk.box [AV.bool neg,AV.sl (canon x).length (1:Nat) (natG .u32 (canon x))]])) (Tree.leaf (wa.loop (Prod.fst (lps K132 (0:Nat))) (Prod.snd (lps K132 (0:Nat))) [((1:Nat),AV.ptr (0:Nat) (0:Nat)),((4:Nat),AV.nils),((6:Nat),AV.undef),((12:Nat),AV.sl (canon x).length (1:Nat) (natG .u32 (canon x))),((13:Nat),AV.int .i64 (↑(canon x).length:Int)),((14:Nat),AV.int .i64 (0:Int)),((18:Nat),AV.undef)] [Blk.box [AV.bool neg,AV.sl (canon x).length (1:Nat) (natG .u32 (canon x))]]))) (by kernel_rfl) ?_
 simp only [Tree.holds,zd,inR,lo,hi]
 refine⟨fun h0=> ?_,fun h0=> ?_⟩
 ·have h0:x=0:=by
   rcases Nat.eq_zero_or_pos x with h | h
   ·exact h
   ·have:=j2 (x:=x) (n:=0) (by simp; omega)
    simp at h0; rw [h0] at this; simp at this
  subst h0
  refine RetR.scal hq rfl ?_
  simp [resV,wr]
 ·have hx0:x≠0:=by
   rintro rfl
   simp [zL] at h0
  refine zc.bear 4 1 (natG .u8 []) (by kernel_rfl) (by decide +kernel) (by kernel_rfl) ?_
  refine zc.loop (ι:={i:Nat // i≤(canon x).length}) (fun i=>SW x i.1 (wb x i.1).length) (fun i=>[ke neg x,.arr (wb x i.1).length 1 (natG .u8 (wb x i.1))]) (fun i=>(canon x).length - i.1) ⟨0,Nat.zero_le _⟩ 0 ?_ ?_ (by kernel_rfl)
  ·exact⟨by simp [yS,SW,magS,natS,zb,WV],by simp [ke,magS,natS,zb,WV,eqG],by kernel_rfl,Nat.zero_le _⟩
  ·rintro⟨i,hil⟩
   obtain⟨b,hb⟩:∃ b,wb x i=b:=⟨_,rfl⟩
   simp only [hb]
   refine zc.run hmix Um [1,4,6,12,13,14,18] 400 (T:=Tree.ite (decide ((↑i:Int)<(↑(canon x).length:Int))) (Tree.side ((0:Int)≤(↑i:Int)∧(↑i:Int)<(↑(canon x).length:Int)) (Tree.leaf (wa.loop (Prod.fst (lps (inside K132 (0:Nat)) (0:Nat))) (Prod.snd (lps (inside K132 (0:Nat)) (0:Nat))) [((1:Nat),AV.ptr (0:Nat) (0:Nat)),((4:Nat),AV.osl (1:Nat) (1:Nat) (0:Nat) b.length),((6:Nat),AV.int .u32 (↑(List.getD (canon x) (↑i:Int).toNat (0:Nat)):Int)),((12:Nat),AV.sl (canon x).length (1:Nat) (natG .u32 (canon x))),((13:Nat),AV.int .i64 (↑(canon x).length:Int)),((14:Nat),AV.int .i64 (↑i:Int)),((18:Nat),AV.int .i64 (0:Int))] [Blk.box [AV.bool neg,AV.sl (canon x).length (1:Nat) (natG .u32 (canon x))],Blk.arr b.length (1:Nat) (natG .u8 b)]))) (Tree.leaf (wa.loop (Prod.fst (lps (inside K132 (0:Nat)) (1:Nat))) (Prod.snd (lps (inside K132 (0:Nat)) (1:Nat))) [((1:Nat),AV.ptr (0:Nat) (0:Nat)),((4:Nat),AV.osl (1:Nat) (1:Nat) (0:Nat) b.length),((6:Nat),AV.undef),((12:Nat),AV.sl (canon x).length (1:Nat) (natG .u32 (canon x))),((13:Nat),AV.int .i64 (↑(canon x).length:Int)),((14:Nat),AV.int .i64 (↑i:Int)),((18:Nat),AV.undef)] [Blk.box [AV.bool neg,AV.sl (canon x).length (1:Nat) (natG .u32 (canon x))],Blk.arr b.length (1:Nat) (natG .u8 b)]))) (by kernel_rfl) ?_
   simp only [Tree.holds,zd,inR,lo,hi,Int.toNat_natCast]
   refine⟨fun hlt=>⟨by simp at hlt; omega,fun _=> ?_⟩,fun hge=> ?_⟩
   ·have hlt:i<(canon x).length:=by simp at hlt; omega
    obtain⟨g,hg⟩:∃ g,(canon x).getD i 0=g:=⟨_,rfl⟩
    have hgB:g<1000000000:=hg▸zO (zk x) i
    have hstep:=zg5 hlt
    have hbl:b.length=9*i:=by rw [← hb,WV]
    rw [hb,hg] at hstep
    rw [hg]
    refine zc.loop (ι:={k:Nat // k≤9}) (fun k=>SW2 x i (b++(decs k.1 g).map (48 + ·)).length (g/10^k.1) k.1) (fun k=>[ke neg x,.arr (b++(decs k.1 g).map (48 + ·)).length 1 (natG .u8 (b++(decs k.1 g).map (48 + ·)))]) (fun k=>9 - k.1) ⟨0,Nat.zero_le _⟩ 1 ?_ ?_ (by kernel_rfl)
    ·exact⟨by simp [SW2,magS,natS,zb,decs],by simp [ke,magS,natS,zb,decs],by kernel_rfl,Nat.zero_le _⟩
    ·rintro⟨k,hk⟩
     obtain⟨c,hc⟩:∃ c,b++(decs k g).map (48 + ·)=c:=⟨_,rfl⟩
     obtain⟨q,hqv⟩:∃ q,g/10^k=q:=⟨_,rfl⟩
     have hqB:q<1000000000:=by rw [← hqv]; exact Nat.lt_of_le_of_lt (Nat.div_le_self _ _) hgB
     have hcl:c.length=9*i+k:=by rw [← hc]; simp [yX,hbl]
     have hnext:b++(decs (k+1) g).map (48 + ·)=c++[48+q%10]:=by
      rw [Jw,List.map_append,← List.append_assoc,hc,hqv]; rfl
     have hqn:g/10^(k+1)=q/10:=by rw [Nat.pow_succ,← Nat.div_div_eq_div_mul,hqv]
     simp only [hc,hqv]
     refine zc.run hmix Um [1,4,6,12,13,14,18] 400 (T:=Tree.ite (decide ((↑k:Int)<(9:Int))) (Tree.side ((10:Int)≠(0:Int)) (Tree.side (inR IntKind.u32 ((48:Int)+Int.tmod (↑q:Int) (10:Int))) (Tree.side (inR IntKind.u8 ((48:Int)+Int.tmod (↑q:Int) (10:Int))) (Tree.side ((0:Nat)=(0:Nat)∧List.length c≤List.length c∧(List.length c+(1:Nat))*(1:Nat)≤(140737488355328:Nat)) (Tree.side ((10:Int)≠(0:Int)∧inR IntKind.u32 (Int.tdiv (↑q:Int) (10:Int))) (Tree.side (inR IntKind.i64 ((↑k:Int)+(1:Int))) (Tree.leaf (wa.back (1:Nat) [((1:Nat),AV.ptr (0:Nat) (0:Nat)),((4:Nat),AV.osl (1:Nat) (1:Nat) (0:Nat) (List.length c+(1:Nat))),((6:Nat),AV.int .u32 (Int.tdiv (↑q:Int) (10:Int))),((12:Nat),AV.sl (canon x).length (1:Nat) (natG .u32 (canon x))),((13:Nat),AV.int .i64 (↑(canon x).length:Int)),((14:Nat),AV.int .i64 (↑i:Int)),((18:Nat),AV.int .i64 ((↑k:Int)+(1:Int)))] [Blk.box [AV.bool neg,AV.sl (canon x).length (1:Nat) (natG .u32 (canon x))],Blk.arr (List.length c+(1:Nat)) (1:Nat) (appG c.length (natG .u8 c) (zg (zh (1:Nat) [AV.int .u8 ((48:Int)+Int.tmod (↑q:Int) (10:Int))]) (0:Nat))),Blk.arr (1:Nat) (1:Nat) (zh (1:Nat) [AV.int .u8 ((48:Int)+Int.tmod (↑q:Int) (10:Int))])])))))))) (Tree.side (inR IntKind.i64 ((↑i:Int)+(1:Int))) (Tree.leaf (wa.back (0:Nat) [((1:Nat),AV.ptr (0:Nat) (0:Nat)),((4:Nat),AV.osl (1:Nat) (1:Nat) (0:Nat) c.length),((6:Nat),AV.int .u32 (↑q:Int)),((12:Nat),AV.sl (canon x).length (1:Nat) (natG .u32 (canon x))),((13:Nat),AV.int .i64 (↑(canon x).length:Int)),((14:Nat),AV.int .i64 ((↑i:Int)+(1:Int))),((18:Nat),AV.int .i64 (↑k:Int))] [Blk.box [AV.bool neg,AV.sl (canon x).length (1:Nat) (natG .u32 (canon x))],Blk.arr c.length (1:Nat) (natG .u8 c)])))) (by kernel_rfl) ?_
     have e10:(10:Int)=((10:Nat):Int):=rfl
     have em:Int.tmod (q:Int) 10=((q%10:Nat):Int):=by rw [e10,Uk]
     have ed:Int.tdiv (q:Int) 10=((q/10:Nat):Int):=by rw [e10,YU]
     simp only [Tree.holds,zd,inR,lo,hi,em,ed]
     refine⟨fun hlt2=> ?_,fun hge2=> ?_⟩
     ·have hlt2:k<9:=by simp at hlt2; omega
      refine⟨by decide,fun _=>⟨by omega,fun _=>⟨by omega,fun _=>⟨⟨trivial,Nat.le_refl _,by omega⟩,fun _=>⟨⟨by decide,by omega,by omega⟩,fun _=>⟨by omega,fun _=> ?_⟩⟩⟩⟩⟩⟩
      rw [if_pos trivial]
      refine⟨⟨k+1,by omega⟩,by show 9 - (k+1)<9 - k; omega,?_,?_,by kernel_rfl,Nat.zero_le _⟩
      ·simp [SW2,hnext,hqn,magS,natS,zb]
      ·simp only [hnext]
       refine⟨by simp [ke,magS,natS,zb],⟨by simp,rfl,?_⟩,trivial⟩
       have:=yw (k:=.u8) (l:=c) (v:=48+((q%10:Nat):Int)) (by omega)
       rw [show(48+((q%10:Nat):Int)).toNat=48+q%10 by omega] at this
       exact this
     ·have hge2:k=9:=by simp at hge2; omega
      subst hge2
      refine⟨by omega,fun _=> ?_⟩
      rw [if_neg (by decide),if_pos trivial]
      have hcw:c=wb x (i+1):=by rw [← hc,hstep]
      exact⟨⟨i+1,hlt⟩,by show _ - (i+1)<_ - i; omega,by simp [SW,hcw,magS,natS,zb],by simp [hcw,ke,magS,natS,zb],by kernel_rfl,Nat.zero_le _⟩
   ·have hge:i=(canon x).length:=by simp at hge; omega
    subst hge
    exact zap neg x hp hx0 hq b hb.symm
noncomputable def K98:List Go.Sx.Item:=[.code (Tryz.f98.body.getD .skip)]
noncomputable def K99:List Go.Sx.Item:=[.code (Tryz.f99.body.getD .skip)]
theorem QB(c:UInt8):(if decide ((c.toNat:Int)<48)=true then true else decide (57<(c.toNat:Int))) = !isD c:=by
 simp only [isD]
 by_cases h:c.toNat<48
 ·rw [if_pos (by simp; omega)]; simp; omega
 ·rw [if_neg (by simp; omega)]
  by_cases h2:c.toNat≤57
  ·have:decide (57<(c.toNat:Int))=false:=by simp; omega
   rw [this]; simp; omega
  ·have:decide (57<(c.toNat:Int))=true:=by simp; omega
   rw [this]; simp; omega
def Qd:Ctr:=ctrP true (fun s:List UInt8=>[.str s]) (fun s=>s.length<2^62) (fun s r=>r=errI s) (fun _ r=>(.int .i64 r,[]))
def SCk(b:List UInt8)(i:Nat):KV:=[(3,.str b),(31,.int .i64 (b.length:Int)),(32,.int .i64 (i:Int)),(40,.undef),(41,.undef),(42,.undef),(43,.undef)]
theorem Qj{O:Nat→Prop}{w0:World}{Q:AV×Heap→Prop}{neg:Bool}(b:List UInt8)(hb:b.length<2^62)(hf:b.all isD=true→jW neg b=true)
  (hq:Q (.int .i64 (if jW neg b then(if 1000<b.length then 14 else 0) else 12),[])) :
  zc Tryz.prog Tryz.f98 O 0 w0 [] (fun _ _ _=>False) (RetR Qd 0 Q) (.code (.loop (lps K98 0).1)::(lps K98 0).2) (mk Tryz.f98.ntmps (SCk b 0) []):=by
 refine zc.loop (ι:={i:Nat // i≤b.length∧∀ j,j<i→isD (b.getD j 0)=true}) (fun i=>SCk b i.1) (fun _=>[]) (fun i=>b.length - i.1) ⟨0,Nat.zero_le _,fun j hj=>by omega⟩ 0 ?_ ?_ (by kernel_rfl)
 ·exact⟨by simp [SCk],by simp,by kernel_rfl,Nat.zero_le _⟩
 ·rintro⟨i,hil,hid⟩
  refine zc.run hmix zD [3,31,32,40,41,42,43] 400 (T:=.ite (decide ((↑i:Int)<b.length)) (.side ((0:Int)≤i∧(↑i:Int)<b.length) (.side (decide ((↑(UInt8.toNat (b.getD (↑i:Int).toNat (0:UInt8))):Int)<48)=false→(0:Int)≤i∧(↑i:Int)<b.length) (.ite (bif decide ((↑(UInt8.toNat (b.getD (↑i:Int).toNat (0:UInt8))):Int)<48) then true else decide ((57:Int)<(↑(UInt8.toNat (b.getD (↑i:Int).toNat (0:UInt8))):Int))) (.leaf (.ret [.int .i64 12] [])) (.side (inR .i64 ((↑i:Int)+(1:Int))) (.leaf (.back 0 [(3,.str b),(31,.int .i64 b.length),(32,.int .i64 ((↑i:Int)+(1:Int))),(40,.undef),(41,.undef),(42,.undef),(43,.undef)] [])))))) (.ite (decide ((1000:Int)<b.length)) (.leaf (.ret [.int .i64 14] [])) (.leaf (.ret [.int .i64 0] [])))) (by kernel_rfl) ?_
  simp only [Tree.holds,zd,inR,lo,hi,Int.toNat_natCast,Bool.cond_eq_ite]
  refine⟨fun hlt=> ?_,fun hge=>⟨fun hbig=> ?_,fun hsm=> ?_⟩⟩
  ·have hlt:i<b.length:=by simp at hlt; omega
   refine⟨by omega,fun _=>⟨fun _=>by omega,fun _=>⟨fun hbad=> ?_,fun hgood=>⟨by omega,fun _=> ?_⟩⟩⟩⟩
   ·have hnd:isD (b.getD i 0)=false:=by
     rw [QB] at hbad
     simpa using hbad
    have hnf:jW neg b=false:=by
     have:b.all isD=false:=by
      rw [List.all_eq_false]
      refine⟨b.getD i 0,by simp [List.getD,hlt],by simpa using hnd⟩
     simp [jW,this]
    rw [hnf] at hq
    exact RetR.scal hq rfl (by simp [resV])
   ·have hd:isD (b.getD i 0)=true:=by
     rw [QB] at hgood
     simpa using hgood
    rw [if_pos trivial]
    refine⟨⟨i+1,hlt,fun j hj=> ?_⟩,by show b.length - (i+1)<b.length - i; omega,by simp [SCk],by simp,by kernel_rfl,Nat.zero_le _⟩
    rcases Nat.lt_or_ge j i with h | h
    ·exact hid j h
    ·have:j=i:=by omega
     subst this; exact hd
  all_goals
   have hge:i=b.length:=by simp at hge; omega
   have hall:b.all isD=true:=by
    rw [List.all_eq_true]
    intro c hc
    obtain⟨j,hj,rfl⟩:=List.getElem_of_mem hc
    have:=hid j (by omega)
    simpa [List.getD,hj] using this
   rw [hf hall] at hq
  ·rw [if_pos rfl,if_pos (by simp at hbig; omega)] at hq
   exact RetR.scal hq rfl (by simp [resV])
  ·rw [if_pos rfl,if_neg (by simp at hsm; omega)] at hq
   exact RetR.scal hq rfl (by simp [resV])
theorem QK:zf Tryz.prog 98 Qd:=by
 refine zi (fn:=Tryz.f98) (c:=Tryz.f98.body.getD .skip) rfl rfl rfl fun s hs O w0 Q hq=> ?_
 replace hq:=hq _ rfl
 refine zc.run hmix zD [3,31,32,40,41,42,43] 400 (T:=.side (decide ((0:Int)<s.length)=true→(0:Int)≤0∧(0:Int)<s.length) (.ite (bif decide ((0:Int)<s.length) then decide ((↑(UInt8.toNat (s.getD 0 (0:UInt8))):Int)=45) else false) (.side ((0:Int)≤1∧(1:Int)≤s.length) (.ite (decide (List.drop 1 (List.take s.length s)=#[(48:UInt8)].toList)) (.leaf (.ret [.int .i64 12] [])) (.side (decide (List.drop 1 (List.take s.length s)=#[].toList)=false→(0:Int)≤0∧(0:Int)<(↑(List.length (List.drop 1 (List.take s.length s))):Int)) (.ite (bif decide (List.drop 1 (List.take s.length s)=#[].toList) then true else bif decide ((↑(UInt8.toNat (List.getD (List.drop 1 (List.take s.length s)) 0 (0:UInt8))):Int)=48) then decide ((1:Int)<(↑(List.length (List.drop 1 (List.take s.length s))):Int)) else false) (.leaf (.ret [.int .i64 12] [])) (.leaf (.loop (Prod.fst (lps K98 0)) (Prod.snd (lps K98 0)) [(3,.str (List.drop 1 (List.take s.length s))),(31,.int .i64 (↑(List.length (List.drop 1 (List.take s.length s))):Int)),(32,.int .i64 0),(40,.undef),(41,.undef),(42,.undef),(43,.undef)] [])))))) (.side (decide (s=#[].toList)=false→(0:Int)≤0∧(0:Int)<s.length) (.ite (bif decide (s=#[].toList) then true else bif decide ((↑(UInt8.toNat (s.getD 0 (0:UInt8))):Int)=48) then decide ((1:Int)<s.length) else false) (.leaf (.ret [.int .i64 12] [])) (.leaf (.loop (Prod.fst (lps K98 0)) (Prod.snd (lps K98 0)) [(3,.str s),(31,.int .i64 s.length),(32,.int .i64 0),(40,.undef),(41,.undef),(42,.undef),(43,.undef)] [])))))) (by kernel_rfl) ?_
 simp only [Tree.holds,zd,inR,lo,hi,Bool.cond_eq_ite]
 cases s with
 | nil=>
  simp only [errI,parse,jW] at hq
  refine⟨by simp,fun _=>⟨fun h=>by simp at h,fun _=>⟨by simp,fun _=>⟨fun _=> ?_,fun h=>by simp at h⟩⟩⟩⟩
  exact RetR.scal hq rfl (by simp [resV])
 | cons c b=>
  refine⟨by simp,fun _=>⟨fun h=> ?_,fun h=> ?_⟩⟩
  ·have hc:c=45:=by
    simp at h
    have:c.toNat=45:=by omega
    exact UInt8.toNat_inj.1 this
   subst hc
   have hp:parse (45::b)=(true,b):=rfl
   have hd:List.drop 1 (List.take (45::b).length (45::b))=b:=by simp
   rw [hd]
   simp only [errI,hp] at hq
   refine⟨by simp; omega,fun _=>⟨fun h0=> ?_,fun h0=>⟨fun hne=> ?_,fun _=>⟨fun hbad=> ?_,fun hgood=> ?_⟩⟩⟩⟩
   ·have hb:b=[48]:=by simpa using h0
    subst hb
    exact RetR.scal hq rfl rfl
   ·have:b≠[]:=by simpa using hne
    have:=List.length_pos_iff.2 this
    omega
   ·have hnf:jW true b=false:=by
     by_cases hb:b=[]
     ·subst hb; rfl
     ·rw [if_neg (by simpa using hb)] at hbad
      split at hbad
      ·rename_i h48
       have:b.getD 0 0=48:=K1 (of_decide_eq_true h48)
       have hl:1<b.length:=by simp at hbad; omega
       exact kF this hl
      ·cases hbad
    rw [hnf] at hq
    exact RetR.scal hq rfl (by simp [resV])
   ·have hf:b.all isD=true→jW true b=true:=by
     intro hall
     have hb:b≠[]:=by
      intro hb; subst hb; simp at hgood
     have hb2:b≠[48]:=by simpa using h0
     rw [if_neg (by simpa using hb)] at hgood
     have h3:¬ (b.getD 0 0=48∧1<b.length):=by
      rintro⟨g1,g2⟩
      rw [g1] at hgood
      rw [if_pos (by decide)] at hgood
      simp at hgood; omega
     simp only [jW,hall,hb,hb2,Bool.and_true]
     simp only [decide_false,Bool.not_false,Bool.and_false,Bool.true_and,Bool.not_eq_true',Bool.and_eq_false_iff,decide_eq_false_iff_not]
     by_cases g1:b.getD 0 0=48
     ·exact .inr fun g2=>h3 ⟨g1,g2⟩
     ·exact .inl g1
    exact Qj b (by simp at hs; omega) hf hq
  ·have hc:c≠45:=by
    rintro rfl
    simp at h
   have hp:parse (c::b)=(false,c::b):=by simp [parse,hc]
   simp only [errI,hp] at hq
   obtain⟨s,hs'⟩:∃ s,c::b=s:=⟨_,rfl⟩
   have hne:s≠[]:=by rw [← hs']; simp
   rw [hs'] at hq hs ⊢
   refine⟨fun _=>⟨by omega,by have:=List.length_pos_iff.2 hne; omega⟩,fun _=>⟨fun hbad=> ?_,fun hgood=> ?_⟩⟩
   ·have hnf:jW false s=false:=by
     rw [if_neg (by simpa using hne)] at hbad
     split at hbad
     ·rename_i h48
      have:s.getD 0 0=48:=K1 (of_decide_eq_true h48)
      have hl:1<s.length:=by simp at hbad; omega
      exact kF this hl
     ·cases hbad
    rw [hnf] at hq
    exact RetR.scal hq rfl (by simp [resV])
   ·have hf:s.all isD=true→jW false s=true:=by
     intro hall
     rw [if_neg (by simpa using hne)] at hgood
     have h3:¬ (s.getD 0 0=48∧1<s.length):=by
      rintro⟨g1,g2⟩
      rw [g1] at hgood
      rw [if_pos (by decide)] at hgood
      simp at hgood; omega
     simp only [jW,hall,hne,Bool.and_true]
     simp only [decide_false,Bool.not_false,Bool.false_and,Bool.true_and,Bool.not_eq_true',Bool.and_eq_false_iff,decide_eq_false_iff_not]
     by_cases g1:s.getD 0 0=48
     ·exact .inr fun g2=>h3 ⟨g1,g2⟩
     ·exact .inl g1
    exact Qj s hs hf hq
def numV(neg:Bool)(x:Nat):AV:=.agg [.bool neg,magS x]
def Zh:Ctr:=ctrP false (fun p:List UInt8×List UInt8=>[.str p.1,.str p.2]) (fun p=>p.1.length<2^62∧p.2.length<2^62) (fun p (r:Int×(Bool×Nat)×(Bool×Nat))=>r=if z8 p.1 p.2=0 then(0,(negI p.1,numI p.1),(negI p.2,numI p.2)) else(z8 p.1 p.2,(false,0),(false,0)))
 (fun _ r=>(.tup [numV r.2.1.1 r.2.1.2,numV r.2.2.1 r.2.2.2,.int .i64 r.1],[]))
noncomputable def G5:Nat→Option Ctr:=fun f=>if f=98 then some (Qd) else if f=147 then some (zbz) else none
theorem zlk:∀ g c,G5 g=some c→zf Tryz.prog g c:=okIf QK (okIf zhw (zx))
theorem zk2:canon 0=[]:=by simp [canon]
theorem WD:zf Tryz.prog 131 Zh:=by
 refine zi (fn:=Tryz.f131) (c:=Tryz.f131.body.getD .skip) rfl rfl rfl fun p hp O w0 Q hq=> ?_
 obtain⟨s,t⟩:=p
 obtain⟨hs,ht⟩:=hp
 replace hq:=hq _ rfl
 simp only at hs ht hq
 refine zc.run hmix zlk [] 400 (T:=.ex (fun(x:List UInt8)=>eqL [AV.str s] [AV.str x]∧x.length<4611686018427387904) fun n=>.all (fun(r:Int)=>r=errI n) fun n=>.ite (decide (n=0)) (.ex (fun(x:List UInt8)=>eqL [AV.str t] [AV.str x]∧x.length<4611686018427387904) fun n=>.all (fun(r:Int)=>r=errI n) fun n=>.ite (!decide (n=0)) (.leaf (.ret [.agg [.bool false,.nils],.agg [.bool false,.nils],.int .i64 n] [.box [.bool false,.nils],.box [.bool false,.nils]])) (.ex (fun(x:Bool×List UInt8)=>eqL [AV.str s] [AV.str (sgn x.1 x.2)]∧allD x.2∧x.2≠[]∧x.2.length≤1000000) fun n=>.all (fun(r:Nat)=>r=numD n.2) fun n_1=>.ex (fun(x:Bool×List UInt8)=>eqL [AV.str t] [AV.str (sgn x.1 x.2)]∧allD x.2∧x.2≠[]∧x.2.length≤1000000) fun n_2=>.all (fun(r:Nat)=>r=numD n_2.2) fun n_3=>.leaf (.ret [.agg [.bool n.1,.sl (canon n_1).length 1 (natG .u32 (canon n_1))],.agg [.bool n_2.1,.sl (canon n_3).length 1 (natG .u32 (canon n_3))],.int .i64 0] [.box [.bool n.1,.sl (canon n_1).length 1 (natG .u32 (canon n_1))],.box [.bool n_2.1,.sl (canon n_3).length 1 (natG .u32 (canon n_3))]]))) (.ite (!decide (n=0)) (.leaf (.ret [.agg [.bool false,.nils],.agg [.bool false,.nils],.int .i64 n] [.box [.bool false,.nils],.box [.bool false,.nils]])) (.ex (fun(x:Bool×List UInt8)=>eqL [AV.str s] [AV.str (sgn x.1 x.2)]∧allD x.2∧x.2≠[]∧x.2.length≤1000000) fun n=>.all (fun(r:Nat)=>r=numD n.2) fun n_1=>.ex (fun(x:Bool×List UInt8)=>eqL [AV.str t] [AV.str (sgn x.1 x.2)]∧allD x.2∧x.2≠[]∧x.2.length≤1000000) fun n_2=>.all (fun(r:Nat)=>r=numD n_2.2) fun n_3=>.leaf (.ret [.agg [.bool n.1,.sl (canon n_1).length 1 (natG .u32 (canon n_1))],.agg [.bool n_2.1,.sl (canon n_3).length 1 (natG .u32 (canon n_3))],.int .i64 0] [.box [.bool n.1,.sl (canon n_1).length 1 (natG .u32 (canon n_1))],.box [.bool n_2.1,.sl (canon n_3).length 1 (natG .u32 (canon n_3))]])))) (by kernel_rfl) ?_
 have bad:∀ h,z8 s t≠0→RetR Zh 0 Q [.agg [.bool false,.nils],.agg [.bool false,.nils],.int .i64 (z8 s t)] h:=by
  intro h he
  rw [if_neg he] at hq
  refine RetR.out0 hq (fun h=>by simp [Zh,ctrP] at h) ?_
  simp [resV,exp2,exp1,exp0,ren0,eqA2,eqL1,eqA,eqL0,eqA0,numV,magS,natS,zk2]
 have good:∀ h,z8 s t=0→RetR Zh 0 Q [.agg [.bool (negI s),magS (numI s)],.agg [.bool (negI t),magS (numI t)],.int .i64 0] h:=by
  intro h he
  rw [if_pos he] at hq
  refine RetR.out0 hq (fun h=>by simp [Zh,ctrP] at h) ?_
  simp [resV,exp2,exp1,exp0,ren0,eqA2,eqL1,eqA,eqL0,eqA0,numV,magS,natS,zb]
 have rd:∀ u,errI u=0→eqL [AV.str u] [AV.str (sgn (negI u) (parse u).2)]∧allD (parse u).2∧(parse u).2≠[]∧(parse u).2.length≤1000000:=by
  intro u hu
  obtain⟨h1,h2,h3,h4⟩:=ZL hu
  exact⟨by simpa using h1,h2,h3,by omega⟩
 simp only [Tree.holds,zd]
 refine⟨s,⟨by simp,by omega⟩,?_⟩
 refine⟨⟨_,rfl⟩,?_⟩
 rintro _ rfl
 refine⟨fun h1=> ?_,fun h1=> ?_⟩
 ·have h1:errI s=0:=by simpa using h1
  refine⟨t,⟨by simp,by omega⟩,?_⟩
  refine⟨⟨_,rfl⟩,?_⟩
  rintro _ rfl
  refine⟨fun h2=> ?_,fun h2=> ?_⟩
  ·have h2:errI t≠0:=by simpa using h2
   have e:z8 s t=errI t:=by simp [z8,h1]
   rw [← e]
   exact bad _ (by rw [e]; exact h2)
  ·have h2:errI t=0:=by simpa using h2
   refine⟨(negI s,(parse s).2),rd s h1,?_⟩
   refine⟨⟨_,rfl⟩,?_⟩
   rintro _ rfl
   refine⟨(negI t,(parse t).2),rd t h2,?_⟩
   refine⟨⟨_,rfl⟩,?_⟩
   rintro _ rfl
   exact good _ (zq.2 ⟨h1,h2⟩)
 ·have h1:errI s≠0:=by simpa using h1
  have e:z8 s t=errI s:=by simp [z8,h1]
  refine⟨fun h2=> ?_,fun h2=>absurd (by simpa using h2) h1⟩
  rw [← e]
  exact bad _ (by rw [e]; exact h1)
noncomputable def G6:Nat→Option Ctr:=fun f=>if f=131 then some (Zh) else if f=137 then some (yE) else if f=132 then some (Qn) else none
theorem zil:∀ g c,G6 g=some c→zf Tryz.prog g c:=okIf WD (okIf JG (okIf QG (zx)))
def gcdC:Ctr:=ctrP true (fun p:List UInt8×List UInt8=>[.str p.1,.str p.2]) (fun p=>p.1.length<2^62∧p.2.length<2^62) (fun p r=>r=gcdR p.1 p.2) (fun _ r=>(.tup [.str r.1,.int .i64 r.2],[]))
def SGc:KV:=[(6,.ptr 0 0),(7,.ptr 1 0)]
def HGc(m n:Bool)(x y:Nat):Heap:=[.box [.bool m,magS x],.box [.bool n,magS y]]
theorem jC{x:Nat} : x<B^112↔(canon x).length≤112:=by
 refine⟨fun h=>z6 h,fun h=> ?_⟩
 have h1:=qn (zk x)
 rw [zn] at h1
 exact Nat.lt_of_lt_of_le h1 (Nat.pow_le_pow_right (by decide) h)
theorem xG{x:Nat} : (canon x).length=0↔x=0:=by
 constructor
 ·intro h
  have:=zn x
  rw [List.length_eq_zero_iff.1 h] at this
  exact this.symm
 ·rintro rfl; simp [canon]
theorem zdk:zf Tryz.prog 99 gcdC:=by
 refine zi (fn:=Tryz.f99) (c:=Tryz.f99.body.getD .skip) rfl rfl rfl fun p hp O w0 Q hq=> ?_
 obtain⟨s,t⟩:=p
 obtain⟨hs,ht⟩:=hp
 replace hq:=hq _ rfl
 simp only at hs ht hq
 refine zc.run hmix zil [6,7] 400 (T:=.ex (fun(x:List UInt8×List UInt8)=>eqL [AV.str s,AV.str t] [AV.str x.1,AV.str x.2]∧x.1.length<4611686018427387904∧x.2.length<4611686018427387904) fun n=>.all (fun(r:Int×(Bool×Nat)×Bool×Nat)=>r=if z8 n.1 n.2=0 then((0:Int),(negI n.1,numI n.1),negI n.2,numI n.2) else(z8 n.1 n.2,(false,0),false,0)) fun n=>.ite (!decide (n.1=0)) (.leaf (.ret [.str #[].toList,.int .i64 n.1] [.box [.bool n.2.1.1,.sl (canon n.2.1.2).length 1 (natG .u32 (canon n.2.1.2))],.box [.bool n.2.2.1,.sl (canon n.2.2.2).length 1 (natG .u32 (canon n.2.2.2))]])) (.leaf (.loop (Prod.fst (lps K99 0)) (Prod.snd (lps K99 0)) [(6,.ptr 0 0),(7,.ptr 1 0)] [.box [.bool n.2.1.1,.sl (canon n.2.1.2).length 1 (natG .u32 (canon n.2.1.2))],.box [.bool n.2.2.1,.sl (canon n.2.2.2).length 1 (natG .u32 (canon n.2.2.2))]]))) (by kernel_rfl) ?_
 simp only [Tree.holds,zd]
 refine⟨(s,t),⟨by simp,hs,ht⟩,⟨_,rfl⟩,?_⟩
 rintro _ rfl
 refine⟨fun he=> ?_,fun he=> ?_⟩
 ·have he:z8 s t≠0:=by
   intro h; simp [h] at he
  have e:gcdR s t=([],z8 s t):=by simp [gcdR,he]
  simp only [if_neg he]
  rw [e] at hq
  exact RetR.scal hq rfl (by simp [resV])
 ·have he:z8 s t=0:=by
   refine Decidable.byContradiction fun h=> ?_
   simp [h] at he
  simp only [if_pos he]
  have e:gcdR s t=wr false (Nat.gcd (numI s) (numI t)):=by simp [gcdR,he]
  rw [e] at hq
  obtain⟨h1,h2⟩:=zq.1 he
  have b1:=jC.2 (yd h1)
  have b2:=jC.2 (yd h2)
  clear e he h1 h2 hs ht
  generalize numI s=x0 at *
  generalize numI t=y0 at *
  refine zc.loop (ι:={z:Bool×Bool×Nat×Nat // Nat.gcd z.2.2.1 z.2.2.2=Nat.gcd x0 y0∧z.2.2.1<B^112∧z.2.2.2<B^112}) (fun _=>SGc) (fun z=>HGc z.1.1 z.1.2.1 z.1.2.2.1 z.1.2.2.2) (fun z=>z.1.2.2.2) ⟨(negI s,negI t,x0,y0),rfl,b1,b2⟩ 0 ?_ ?_ (by kernel_rfl)
  ·exact⟨by simp [SGc],by simp [HGc,magS,natS,zb],by kernel_rfl,Nat.zero_le _⟩
  ·rintro⟨⟨m,n,x,y⟩,hg,hx,hy⟩
   simp only at hg hx hy
   refine zc.run hmix zil [6,7] 400 (T:=.ite (decide ((0:Int)<(↑(canon y).length:Int))) (.ex (fun(x_1:Nat×Nat)=>eqL [AV.sl (canon x).length 1 (natG .u32 (canon x)),AV.sl (canon y).length 1 (natG .u32 (canon y))] [AV.sl (canon x_1.1).length 1 (natG .u32 (canon x_1.1)),AV.sl (canon x_1.2).length 1 (natG .u32 (canon x_1.2))]∧List.length (canon x_1.1)<100000∧List.length (canon x_1.2)<100000∧0<x_1.2) fun n_1=>.all (fun(r:Nat×Nat)=>r=(n_1.1/n_1.2,n_1.1%n_1.2)) fun n_2=>.leaf (.back 0 [(6,.ptr 0 0),(7,.ptr 1 0)] [.box [.bool m,.sl (canon y).length 1 (natG .u32 (canon y))],.box [.bool n,.sl (canon n_2.2).length 1 (natG .u32 (canon n_2.2))]])) (.ex (fun(x_1:Bool×Nat)=>eqL [AV.agg [AV.bool false,AV.sl (canon x).length 1 (natG .u32 (canon x))]] [AV.agg [AV.bool x_1.1,AV.sl (canon x_1.2).length 1 (natG .u32 (canon x_1.2))]]∧List.length (canon x_1.2)<1000000) fun n_1=>.all (fun(r:List UInt8×Int)=>r=wr n_1.1 n_1.2) fun n_2=>.leaf (.ret [.str n_2.1,.int .i64 n_2.2] [.box [.bool m,.sl (canon x).length 1 (natG .u32 (canon x))],.box [.bool n,.sl (canon y).length 1 (natG .u32 (canon y))]]))) (by kernel_rfl) ?_
   simp only [Tree.holds,zd,inR,lo,hi]
   refine⟨fun h0=> ?_,fun h0=> ?_⟩
   ·have hy0:0<y:=by
     rcases Nat.eq_zero_or_pos y with h | h
     ·rw [h] at h0; simp [canon] at h0
     ·exact h
    refine⟨(x,y),⟨by simp [zb],?_,?_,hy0⟩,⟨_,rfl⟩,?_⟩
    ·have:=jC.1 hx; show(canon x).length<100000; omega
    ·have:=jC.1 hy; show(canon y).length<100000; omega
    rintro _ rfl
    simp only
    rw [if_pos trivial]
    refine⟨⟨(m,n,y,x%y),?_,hy,Nat.lt_trans (Nat.mod_lt x hy0) hy⟩,Nat.mod_lt x hy0,by simp [SGc],by simp [HGc,magS,natS,zb],by kernel_rfl,Nat.zero_le _⟩
    show Nat.gcd y (x%y)=Nat.gcd x0 y0
    rw [← hg,Nat.gcd_comm x y,Nat.gcd_rec y x,Nat.gcd_comm]
   ·have hy0:y=0:=xG.1 (by have h0:=of_decide_eq_false h0; omega)
    subst hy0
    refine⟨(false,x),⟨by simp [zb],?_⟩,⟨_,rfl⟩,?_⟩
    ·have:=jC.1 hx; show(canon x).length<1000000; omega
    rintro _ rfl
    rw [Nat.gcd_zero_right] at hg
    rw [← hg] at hq
    exact RetR.scal hq rfl (by simp [resV])
theorem VC{h:Heap}{i sz off n n':Nat}{g:Nat→Nat→AV}(hb:h[i]?=some (.arr n' sz g))(hn:off+n≤n'):exp0 h [] (.osl i sz off n) = .sl n sz (zg g off):=by
 simp [exp0,z5,frz1,jx,hb,hn]
theorem zd7{h:Heap}{i sz off n n':Nat}{g:Nat→Nat→AV}(hb:h[i]?=some (.arr n' sz g))(hn:off+n≤n')(hs:∀ j o,j<n→o<sz→qc (zg g off j o)=true):new0 h [] (.osl i sz off n):=by
 simp only [new0]
 intro _
 rw [VC hb hn]
 exact hs
theorem zkt(g:Nat→Nat→AV):zg g 0=g:=by
 funext j o; simp [zg]
structure IRo(l m:List Nat) where
 qs:List Nat
 r:List Nat
 i:Nat
 hi:i≤l.length
 hql:qs.length+i=l.length
 hqd:Ten.dig qs
 hrd:Ten.dig r
 hrl:r.length≤m.length+1
 hrl2:r.length+i≤l.length
 hlt:Ten.val r<Ten.val m
 hv:Ten.val (l.drop i)=Ten.val qs*Ten.val m+Ten.val r
def big:Nat:=1000
end Go.Proofs.Tryz
end
section
namespace Go.Proofs
set_option maxHeartbeats 1000000 in
set_option maxRecDepth 100000 in
theorem Tryz.KO(s:ByteArray)(c:Int)(w:World) :
  Calls Tryz.prog 166 #[.string s,.int .u8 c] w fun e w'=>e = .returned (.int .i64 (Lib.indexByte s.data.toList c.toNat.toUInt8))∧w'=w:=by
 go_enter Tryz.func166,Tryz.ntmps166
 go_wp2
 rw [run_callFunc_extern Tryz.func170 (by kernel_rfl) (by kernel_rfl) (by kernel_rfl) (e:=Extern.BytealgIndexByte.indexByte) (by kernel_rfl),Lib.run_indexByteString]
 simp only [Result.andThen]
 rw [Oper.upon_value]
 go_wp2
 go_ret
 exact⟨rfl,rfl⟩
set_option maxHeartbeats 2000000 in
set_option maxRecDepth 100000 in
theorem Tryz.X5(s:ByteArray)(c:UInt8)(w:World) :
  Calls Tryz.prog 160 #[.string s,.string ⟨#[c]⟩] w fun e w'=>e = .returned (.int .i64 (Lib.indexByte s.data.toList c))∧w'=w:=by
 go_enter Tryz.func160,Tryz.ntmps160
 go_wp2_with (go_at_call 166; refine(Tryz.KO _ _ _).mono ?_; rintro e w' ⟨rfl,rfl⟩)
 ·have h:([c] == s.toList)=true:=by assumption
  go_ret
  refine⟨?_,rfl⟩
  have e:s.data.toList=[c]:=by rw [← Lib.toList_data]; exact(beq_iff_eq.1 h).symm
  rw [e]
  simp [Lib.indexByte]
 ·go_ret
  exact⟨rfl,rfl⟩
end Go.Proofs
end
section
set_option maxRecDepth 100000
open Go Go.Sx Go.Proofs Go.Nov
namespace Go.Proofs.Tryz
attribute [local simp] eqKV eqA eqA0 eqH eqB eqL eqL0
theorem Zo(s:List UInt8):Lib.indexByte s 47=if zH s<s.length then(zH s:Int) else -1:=by
 induction s with
 | nil=>rfl
 | cons c s ih=>
  simp only [Lib.indexByte,zH,List.findIdx_cons]
  cases h:(c == 47) with
  | true=>simp
  | false=>
   simp only [Bool.false_eq_true,if_false,ih,cond_false,List.length_cons]
   show _=if zH s+1<s.length+1 then((zH s+1:Nat):Int) else -1
   by_cases h2:zH s<s.length
   ·rw [if_pos h2,if_neg (by simp),if_pos (by omega)]; omega
   ·rw [if_neg h2,if_pos (by rfl),if_neg (by omega)]
def Yx:Ctr:=ctrP true (fun s:List UInt8=>[.str s,.str [47]]) (fun s=>True) (fun s r=>r=if zH s<s.length then(zH s:Int) else -1) (fun _ (r:Int)=>(.int .i64 r,[]))
theorem zcp:zf Tryz.prog 160 Yx:=by
 intro args hc Q hq _
 simp only [Yx,ctrP] at hq
 split at hq
 ·obtain⟨s,⟨h1,_⟩,_,h3⟩:=hq
  have hq:=h3 _ rfl
  simp only [Tree.holds] at hq
  refine jg.le h1 ?_
  intro O w σ vals hg hh hr
  simp only [RepL,Rep] at hr
  obtain⟨v1,r1,rfl,rfl,v2,r2,rfl,rfl,rfl⟩:=hr
  refine .inl ⟨enters_of Tryz.func160 (by kernel_rfl) rfl ..,?_⟩
  refine(Tryz.X5 ⟨s.toArray⟩ 47 w).mono ?_
  rintro e w' ⟨rfl,rfl⟩
  have hx:=Zo s
  have h0:σ=[]:=List.length_eq_zero_iff.1 hh.len
  subst h0
  refine⟨_,rfl,_,[],[],hq,?_,⟨rfl,fun i j e f a b h=>by simp at h,fun i e a h=>by simp at h,fun i e b h=>by simp at h⟩,hg,Nat.le_refl _,Hold.refl _ _ _,Ext.refl _ _⟩
  simp only [Rep]
  rw [← hx]
 ·exact hq.elim
def cutC:Ctr:=ctrP true (fun s:List UInt8=>[.str s,.str [47]]) (fun s=>s.length<2^62) (fun s r=>r=cutR s) (fun _ r=>(.tup [.str r.1,.str r.2.1,.bool r.2.2],[]))
noncomputable def GC1:Nat→Option Ctr:=fun f=>if f=160 then some (Yx) else none
theorem zk3:∀ g c,GC1 g=some c→zf Tryz.prog g c:=okIf zcp (zx)
theorem zhp:zf Tryz.prog 149 cutC:=by
 refine zi (fn:=Tryz.f149) (c:=Tryz.f149.body.getD .skip) rfl rfl rfl fun s hs O w0 Q hq=> ?_
 replace hq:=hq _ rfl
 refine zc.run hmix zk3 [] 400 (T:=.ex (fun(x:List UInt8)=>eqL [AV.str s,AV.str [(47:UInt8)]] [AV.str x,AV.str [(47:UInt8)]]∧True) fun n=>.all (fun(r:Int)=>r=if zH n<n.length then(↑(zH n):Int) else(-1:Int)) fun n=>.ite (decide ((0:Int)≤n)) (.side ((0:Int)≤n∧n≤(↑s.length:Int)) (.side (inR .i64 (n+(1:Int))) (.side ((0:Int)≤n+(1:Int)∧n+(1:Int)≤s.length) (.leaf (.ret [.str (List.drop 0 (List.take (Int.toNat n) s)),.str (List.drop (Int.toNat (n+(1:Int))) (List.take s.length s)),.bool true] []))))) (.leaf (.ret [.str s,.str #[].toList,.bool false] []))) (by kernel_rfl) ?_
 simp only [Tree.holds,zd,inR,lo,hi]
 refine⟨s,⟨by simp,trivial⟩,⟨_,rfl⟩,?_⟩
 rintro _ rfl
 by_cases h:zH s<s.length
 ·simp only [if_pos h]
  rw [YE h] at hq
  refine⟨fun _=>⟨by omega,fun _=>⟨by omega,fun _=>⟨by omega,fun _=> ?_⟩⟩⟩,fun hn=> ?_⟩
  ·refine RetR.scal hq rfl ?_
   simp [resV]
  ·have:=of_decide_eq_false hn; omega
 ·simp only [if_neg h]
  rw [zbq h] at hq
  refine⟨fun hn=> ?_,fun _=>RetR.scal hq rfl (by simp [resV])⟩
  have:=of_decide_eq_true hn; omega
noncomputable def GC2:Nat→Option Ctr:=fun f=>if f=149 then some (cutC) else none
theorem zkq:∀ g c,GC2 g=some c→zf Tryz.prog g c:=okIf zhp (zx)
theorem zja:zf Tryz.prog 136 cutC:=by
 refine zi (fn:=Tryz.f136) (c:=Tryz.f136.body.getD .skip) rfl rfl rfl fun s hs O w0 Q hq=> ?_
 replace hq:=hq _ rfl
 refine zc.run hmix zkq [] 400 (T:=.ex (fun(x:List UInt8)=>eqL [AV.str s,AV.str [(47:UInt8)]] [AV.str x,AV.str [(47:UInt8)]]∧x.length<4611686018427387904) fun n=>.all (fun(r:List UInt8×List UInt8×Bool)=>r=cutR n) fun n=>.leaf (.ret [.str n.1,.str n.2.1,.bool n.2.2] [])) (by kernel_rfl) ?_
 simp only [Tree.holds,zd,inR,lo,hi]
 refine⟨s,⟨by simp,hs⟩,⟨_,rfl⟩,?_⟩
 rintro _ rfl
 exact RetR.scal hq rfl (by simp [resV])
def X7:Ctr:=ctrP true (fun s:List UInt8=>[.str s]) (fun s=>s.length<2^62) (fun s r=>r=cutR s) (fun _ r=>(.tup [.str r.1,.str r.2.1,.bool r.2.2],[]))
noncomputable def GC3:Nat→Option Ctr:=fun f=>if f=136 then some (cutC) else if f=98 then some (Qd) else none
theorem zbn:∀ g c,GC3 g=some c→zf Tryz.prog g c:=okIf zja (okIf QK (zx))
theorem VK:zf Tryz.prog 96 X7:=by
 refine zi (fn:=Tryz.f96) (c:=Tryz.f96.body.getD .skip) rfl rfl rfl fun s hs O w0 Q hq=> ?_
 replace hq:=hq _ rfl
 refine zc.run hmix zbn [] 400 (T:=.ex (fun(x:List UInt8)=>eqL [AV.str s,AV.str #[(47:UInt8)].toList] [AV.str x,AV.str [(47:UInt8)]]∧x.length<4611686018427387904) fun n=>.all (fun(r:List UInt8×List UInt8×Bool)=>r=cutR n) fun n=>.leaf (.ret [.str n.1,.str n.2.1,.bool n.2.2] [])) (by kernel_rfl) ?_
 simp only [Tree.holds,zd,inR,lo,hi]
 refine⟨s,⟨by simp,hs⟩,⟨_,rfl⟩,?_⟩
 rintro _ rfl
 exact RetR.scal hq rfl (by simp [resV])
def zj1:Ctr:=ctrP true (fun s:List UInt8=>[.str s]) (fun s=>s.length<2^62) (fun s r=>r=if errI s=12 then 12 else 0) (fun _ (r:Int)=>(.int .i64 r,[]))
theorem zhj:zf Tryz.prog 97 zj1:=by
 refine zi (fn:=Tryz.f97) (c:=Tryz.f97.body.getD .skip) rfl rfl rfl fun s hs O w0 Q hq=> ?_
 replace hq:=hq _ rfl
 refine zc.run hmix zbn [] 400 (T:=.ex (fun(x:List UInt8)=>eqL [AV.str s] [AV.str x]∧x.length<4611686018427387904) fun n=>.all (fun(r:Int)=>r=errI n) fun n=>.ite (!decide (n=14)) (.leaf (.ret [.int .i64 n] [])) (.leaf (.ret [.int .i64 0] []))) (by kernel_rfl) ?_
 simp only [Tree.holds,zd,inR,lo,hi]
 refine⟨s,⟨by simp,hs⟩,⟨_,rfl⟩,?_⟩
 rintro _ rfl
 rcases kI s with h | h | h<;>simp only [h] at hq ⊢
 all_goals
  refine⟨fun h=> ?_,fun h=> ?_⟩
  all_goals first
   | (exfalso; revert h; decide)
   | exact RetR.scal hq rfl (by simp [resV])
def yy:Ctr:=ctrP true (fun s:List UInt8=>[.str s]) (fun s=>s.length<2^62) (fun s r=>r=errR s) (fun _ (r:Int)=>(.int .i64 r,[]))
noncomputable def GC4:Nat→Option Ctr:=fun f=>if f=96 then some (X7) else if f=97 then some (zj1) else if f=98 then some (Qd) else if f=99 then some (gcdC) else none
theorem zk1:∀ g c,GC4 g=some c→zf Tryz.prog g c:=okIf VK (okIf zhj (okIf QK (okIf zdk (zx))))
theorem xE:zf Tryz.prog 50 yy:=by
 refine zi (fn:=Tryz.f50) (c:=Tryz.f50.body.getD .skip) rfl rfl rfl fun s hs O w0 Q hq=> ?_
 replace hq:=hq _ rfl
 refine zc.run hmix zk1 [] 400 (T:=.ex (fun(x:List UInt8)=>eqL [AV.str s] [AV.str x]∧x.length<4611686018427387904) fun n=>.all (fun(r:List UInt8×List UInt8×Bool)=>r=cutR n) fun n=>.ex (fun(x:List UInt8)=>eqL [AV.str n.1] [AV.str x]∧x.length<4611686018427387904) fun n_1=>.all (fun(r:Int)=>r=if errI n_1=12 then(12:Int) else(0:Int)) fun n_2=>.ex (fun(x:List UInt8)=>(!decide (n_2=0))=false∧n.2.2=true→eqL [AV.str n.2.1] [AV.str x]∧x.length<4611686018427387904) fun n_3=>.all (fun(x:Int)=>(!decide (n_2=0))=false∧n.2.2=true→x=if errI n_3=12 then(12:Int) else(0:Int)) fun n_4=>.side (((!decide (n_2=0))=false∧n.2.2=true)∧(!decide (n_4=0))=false→(0:Int)≤0∧(0:Int)<n.2.1.length) (.ite (bif !decide (n_2=0) then true else bif n.2.2 then bif bif bif !decide (n_4=0) then true else decide ((↑(UInt8.toNat (List.getD n.2.1 0 (0:UInt8))):Int)=45) then true else decide (n.2.1=#[(48:UInt8)].toList) then true else decide (n.2.1=#[(49:UInt8)].toList) else false) (.leaf (.ret [.int .i64 12] [])) (.ex (fun(x:List UInt8)=>eqL [AV.str n.1] [AV.str x]∧x.length<4611686018427387904) fun n_5=>.all (fun(r:Int)=>r=errI n_5) fun n_6=>.ex (fun(x:List UInt8)=>(!decide (n_6=0))=false∧n.2.2=true→eqL [AV.str n.2.1] [AV.str x]∧x.length<4611686018427387904) fun n_7=>.all (fun(x:Int)=>(!decide (n_6=0))=false∧n.2.2=true→x=errI n_7) fun n_8=>.ite (bif !decide (n_6=0) then true else bif n.2.2 then !decide (n_8=0) else false) (.leaf (.ret [.int .i64 14] [])) (.ite n.2.2 (.ex (fun(x:List UInt8×List UInt8)=>eqL [AV.str n.1,AV.str n.2.1] [AV.str x.1,AV.str x.2]∧x.1.length<4611686018427387904∧x.2.length<4611686018427387904) fun n=>.all (fun(r:List UInt8×Int)=>r=gcdR n.1 n.2) fun n=>.ite (!decide (n.1=#[(49:UInt8)].toList)) (.leaf (.ret [.int .i64 12] [])) (.leaf (.ret [.int .i64 0] []))) (.leaf (.ret [.int .i64 0] [])))))) (by kernel_rfl) ?_
 simp only [Tree.holds,zd,inR,lo,hi]
 refine⟨s,⟨by simp,hs⟩,⟨_,rfl⟩,?_⟩
 rintro _ rfl
 have hlen:=WX s
 have hno:(cutR s).2.2=false→(cutR s).1=s:=by
  intro h
  unfold cutR at h ⊢
  split at h
  ·cases h
  ·rename_i hn; rw [if_neg hn]
 simp only [errR] at hq
 generalize cutR s=c at hq hlen hno ⊢
 obtain⟨n,d,f⟩:=c
 simp only at hq hlen hno ⊢
 refine⟨n,⟨by simp,by omega⟩,⟨_,rfl⟩,?_⟩
 rintro _ rfl
 refine⟨d,fun _=>⟨by simp,by omega⟩,⟨_,fun _=>rfl⟩,?_⟩
 intro fd hfd
 cases f with
 | false=>
  have hn:=hno rfl
  subst hn
  rw [if_neg (by decide)] at hq
  refine⟨fun h=>by simp at h,fun _=>⟨fun h=> ?_,fun h=> ?_⟩⟩
  ·rcases kI n with e | e | e<;>rw [e] at hq h
   ·simp at h
   ·exact RetR.scal hq rfl (by simp [resV])
   ·simp at h
  ·have hn12:errI n≠12:=by
    intro e; rw [e] at h; simp at h
   refine⟨n,⟨by simp,by omega⟩,⟨_,rfl⟩,?_⟩
   rintro _ rfl
   refine⟨d,fun _=>⟨by simp,by omega⟩,⟨_,fun _=>rfl⟩,?_⟩
   intro fd2 _
   refine⟨fun h=> ?_,fun h=>⟨fun h=>(by cases h),fun _=> ?_⟩⟩
   ·rcases kI n with e | e | e
    ·rw [e] at h; simp at h
    ·exact absurd e hn12
    ·rw [e] at hq; exact RetR.scal hq rfl (by simp [resV])
   ·rcases kI n with e | e | e
    ·rw [e] at hq; exact RetR.scal hq rfl (by simp [resV])
    ·exact absurd e hn12
    ·rw [e] at h; simp at h
 | true=>
  rw [if_pos rfl] at hq
  by_cases hn:errI n=12
  ·rw [if_pos (.inl hn)] at hq
   simp only [hn]
   refine⟨fun h=>by simp at h,fun _=>⟨fun _=>RetR.scal hq rfl (by simp [resV]),fun h=>by simp at h⟩⟩
  ·rw [if_neg hn] at hfd ⊢
   have hfd:=hfd ⟨by simp,rfl⟩
   subst hfd
   by_cases hd:errI d=12
   ·rw [if_pos (.inr (.inl hd))] at hq
    rw [if_pos hd]
    refine⟨fun h=>by simp at h,fun _=>⟨fun _=>RetR.scal hq rfl (by simp [resV]),fun h=>by simp at h⟩⟩
   ·rw [if_neg hd]
    have hd0:d≠[]:=by rintro rfl; exact hd KQ
    have hneg:=J2 hd0
    have hneg2:decide (((d.getD 0 0).toNat:Int)=45)=negI d:=by
     rw [hneg]
     by_cases h:d.getD 0 0=45
     ·rw [h]; rfl
     ·rw [decide_eq_false h]
      refine decide_eq_false fun h2=>h (K1 ?_)
      rw [h2]; rfl
    rw [hneg2]
    refine⟨fun _=>by have:=List.length_pos_iff.2 hd0; omega,fun _=>⟨fun h=> ?_,fun h=> ?_⟩⟩
    ·have:negI d=true∨d=[48]∨d=[49]:=by
      revert h
      cases negI d<;>simp
     rw [if_pos (.inr (.inr this))] at hq
     exact RetR.scal hq rfl (by simp [resV])
    ·have:¬ (errI n=12∨errI d=12∨negI d=true∨d=[48]∨d=[49]):=by
      revert h
      cases negI d<;>simp [hn,hd]
     rw [if_neg this] at hq
     refine⟨n,⟨by simp,by omega⟩,⟨_,rfl⟩,?_⟩
     rintro _ rfl
     refine⟨d,fun _=>⟨by simp,by omega⟩,⟨_,fun _=>rfl⟩,?_⟩
     intro ed hed
     by_cases hn0:errI n=0
     ·have hed:=hed ⟨by simp [hn0],rfl⟩
      subst hed
      by_cases hd0:errI d=0
      ·rw [if_neg (by simp [hn0,hd0])] at hq
       refine⟨fun h=>by simp [hn0,hd0] at h,fun _=>⟨fun _=> ?_,fun h=>by cases h⟩⟩
       refine⟨(n,d),⟨by simp,by simp only; omega,by simp only; omega⟩,⟨_,rfl⟩,?_⟩
       rintro _ rfl
       refine⟨fun h=> ?_,fun h=> ?_⟩
       ·rw [if_pos (by simpa using h)] at hq
        exact RetR.scal hq rfl (by simp [resV])
       ·rw [if_neg (by simpa using h)] at hq
        exact RetR.scal hq rfl (by simp [resV])
      ·rw [if_pos (.inr hd0)] at hq
       refine⟨fun _=>RetR.scal hq rfl (by simp [resV]),fun h=>by simp [hn0,hd0] at h⟩
     ·rw [if_pos (.inl hn0)] at hq
      refine⟨fun _=>RetR.scal hq rfl (by simp [resV]),fun h=>by simp [hn0] at h⟩
noncomputable def K49:List Go.Sx.Item:=[.code (Tryz.f49.body.getD .skip)]
def Vt:Ctr:=ctrP true (fun d:Int=>[.int .i64 d]) (fun _=>True) (fun d r=>r=dayB d) (fun _ (r:Bool)=>(.bool r,[]))
theorem JH:zf Tryz.prog 67 Vt:=by
 refine zi (fn:=Tryz.f67) (c:=Tryz.f67.body.getD .skip) rfl rfl rfl fun d hs O w0 Q hq=> ?_
 replace hq:=hq _ rfl
 refine zc.run hmix zD [] 400 (T:=.leaf (.ret [.bool (bif decide ((0:Int)≤d) then decide (d≤99999) else false)] [])) (by kernel_rfl) ?_
 simp only [Tree.holds,zd]
 refine RetR.scal hq rfl ?_
 simp only [resV,dayB]
 cases decide (0≤d)<;>rfl
theorem zgc(c:UInt8):(bif bif decide (97≤(c.toNat:Int)) then decide ((c.toNat:Int)≤122) else false then true else bif decide (65≤(c.toNat:Int)) then decide ((c.toNat:Int)≤90) else false)=isL c:=by
 have e1:decide (97≤(c.toNat:Int))=decide (97≤c.toNat):=decide_eq_decide.2 (by omega)
 have e2:decide ((c.toNat:Int)≤122)=decide (c.toNat≤122):=decide_eq_decide.2 (by omega)
 have e3:decide (65≤(c.toNat:Int))=decide (65≤c.toNat):=decide_eq_decide.2 (by omega)
 have e4:decide ((c.toNat:Int)≤90)=decide (c.toNat≤90):=decide_eq_decide.2 (by omega)
 rw [e1,e2,e3,e4]
 simp only [isL]
 cases decide (97≤c.toNat)<;>cases decide (c.toNat≤122)<;>cases decide (65≤c.toNat)<;>rfl
def YV:Ctr:=ctrP true (fun c:UInt8=>[.int .u8 (c.toNat:Int)]) (fun _=>True) (fun c r=>r=isL c) (fun _ (r:Bool)=>(.bool r,[]))
theorem UM:zf Tryz.prog 95 YV:=by
 refine zi (fn:=Tryz.f95) (c:=Tryz.f95.body.getD .skip) rfl rfl rfl fun c hs O w0 Q hq=> ?_
 replace hq:=hq _ rfl
 refine zc.run hmix zD [] 400 (T:=.leaf (.ret [.bool (bif bif decide ((97:Int)≤(↑(UInt8.toNat c):Int)) then decide ((↑(UInt8.toNat c):Int)≤122) else false then true else bif decide ((65:Int)≤(↑(UInt8.toNat c):Int)) then decide ((↑(UInt8.toNat c):Int)≤90) else false)] [])) (by kernel_rfl) ?_
 simp only [Tree.holds,zd]
 refine RetR.scal hq rfl ?_
 simp only [resV]
 rw [zgc]
theorem J5(c d:UInt8):decide ((c.toNat:Int)=(d.toNat:Int))=(c == d):=by
 by_cases h:c=d
 ·subst h; simp
 ·rw [decide_eq_false fun h2=>h (K1 h2)]
  simp [h]
theorem zhi(c:UInt8):(bif decide ((c.toNat:Int)<48) then true else decide (57<(c.toNat:Int))) = !isD c:=by
 rw [Bool.cond_eq_ite]; exact QB c
theorem zf3(c:UInt8):(bif bif bif !isL c then bif decide ((c.toNat:Int)<48) then true else decide (57<(c.toNat:Int)) else false then !decide ((c.toNat:Int)=95) else false then !decide ((c.toNat:Int)=45) else false) = !isN c:=by
 rw [zhi]
 have e1:decide ((c.toNat:Int)=95)=(c == 95):=J5 c 95
 have e2:decide ((c.toNat:Int)=45)=(c == 45):=J5 c 45
 rw [e1,e2]; simp only [isN]
 cases isL c<;>cases isD c<;>cases (c == 95)<;>cases (c == 45)<;>rfl
def JI:Ctr:=ctrP true (fun s:List UInt8=>[.str s]) (fun s=>s.length<2^62) (fun s r=>r=zQ s) (fun _ (r:Bool)=>(.bool r,[]))
noncomputable def GN1:Nat→Option Ctr:=fun f=>if f=95 then some (YV) else none
theorem ze1:∀ g c,GN1 g=some c→zf Tryz.prog g c:=okIf UM (zx)
def SNa(s:List UInt8)(i:Nat):KV:=[(0,.str s),(20,.int .i64 (s.length:Int)),(21,.int .i64 (i:Int)),(31,.undef),(32,.undef),(33,.undef),(34,.undef),(35,.undef),(36,.undef),(39,.undef),(40,.undef),(43,.undef),(44,.undef)]
theorem za0{O:Nat→Prop}{w0:World}{Q:AV×Heap→Prop}{Hs:Nat→KV→Heap→Prop}(s:List UInt8)(hs:s.length<2^62)(hq:Q (.bool (s.all isN),[])) :
  zc Tryz.prog Tryz.f49 O 0 w0 [] Hs (RetR JI 0 Q) (.code (.loop (lps K49 0).1)::(lps K49 0).2) (mk Tryz.f49.ntmps (SNa s 0) []):=by
 refine zc.loop (ι:={i:Nat // i≤s.length∧∀ j,j<i→isN (s.getD j 0)=true}) (fun i=>SNa s i.1) (fun _=>[]) (fun i=>s.length - i.1) ⟨0,Nat.zero_le _,fun j hj=>by omega⟩ 0 ?_ ?_ (by kernel_rfl)
 ·exact⟨by simp [SNa],by simp,by kernel_rfl,Nat.zero_le _⟩
 ·rintro⟨i,hil,hib⟩
  refine zc.run hmix ze1 [0,20,21,31,32,33,34,35,36,39,40,43,44] 400 (T:=.ite (decide ((↑i:Int)<s.length)) (.side ((0:Int)≤i∧(↑i:Int)<s.length) (.ex (fun(x:UInt8)=>eqL [AV.int .u8 (↑(UInt8.toNat (s.getD (↑i:Int).toNat (0:UInt8))):Int)] [AV.int .u8 (↑(UInt8.toNat x):Int)]∧True) fun n=>.all (fun(r:Bool)=>r=isL n) fun n=>.ite (bif bif bif !n then bif decide ((↑(UInt8.toNat (s.getD (↑i:Int).toNat (0:UInt8))):Int)<48) then true else decide ((57:Int)<(↑(UInt8.toNat (s.getD (↑i:Int).toNat (0:UInt8))):Int)) else false then !decide ((↑(UInt8.toNat (s.getD (↑i:Int).toNat (0:UInt8))):Int)=95) else false then !decide ((↑(UInt8.toNat (s.getD (↑i:Int).toNat (0:UInt8))):Int)=45) else false) (.leaf (.ret [.bool false] [])) (.side (inR .i64 ((↑i:Int)+(1:Int))) (.leaf (.back 0 [(0,.str s),(20,.int .i64 s.length),(21,.int .i64 ((↑i:Int)+(1:Int))),(31,.undef),(32,.undef),(33,.undef),(34,.undef),(35,.undef),(36,.undef),(39,.undef),(40,.undef),(43,.undef),(44,.undef)] []))))) (.leaf (.ret [.bool true] []))) (by kernel_rfl) ?_
  simp only [Tree.holds,zd,inR,lo,hi,Int.toNat_natCast]
  refine⟨fun hlt=> ?_,fun hge=> ?_⟩
  ·have hlt:i<s.length:=by have:=of_decide_eq_true hlt; omega
   refine⟨by omega,fun _=>⟨s.getD i 0,⟨by simp,trivial⟩,⟨_,rfl⟩,?_⟩⟩
   rintro _ rfl
   rw [zf3]
   refine⟨fun h=> ?_,fun h=>⟨by omega,fun _=> ?_⟩⟩
   ·rw [Vo hlt (by simpa using h)] at hq
    exact RetR.scal hq rfl (by simp [resV])
   ·rw [if_pos trivial]
    refine⟨⟨i+1,hlt,fun j hj=> ?_⟩,by show s.length - (i+1)<s.length - i; omega,by simp [SNa],by simp,by kernel_rfl,Nat.zero_le _⟩
    rcases Nat.lt_or_ge j i with h1 | h1
    ·exact hib j h1
    ·have:j=i:=by omega
     rw [this]; simpa using h
  ·have hge:i=s.length:=by have:=of_decide_eq_false hge; omega
   subst hge
   rw [zfn hib] at hq
   exact RetR.scal hq rfl (by simp [resV])
theorem Zs:zf Tryz.prog 49 JI:=by
 refine zi (fn:=Tryz.f49) (c:=Tryz.f49.body.getD .skip) rfl rfl rfl fun s hs O w0 Q hq=> ?_
 replace hq:=hq _ rfl
 refine zc.run hmix ze1 [0,20,21,31,32,33,34,35,36,39,40,43,44] 400 (T:=.side ((bif decide ((↑s.length:Int)<1) then true else decide ((40:Int)<s.length))=false→(0:Int)≤0∧(0:Int)<s.length) (.ex (fun(x:UInt8)=>(bif decide ((↑s.length:Int)<1) then true else decide ((40:Int)<s.length))=false→eqL [AV.int .u8 (↑(UInt8.toNat (s.getD 0 (0:UInt8))):Int)] [AV.int .u8 (↑(UInt8.toNat x):Int)]∧True) fun n=>.all (fun(x:Bool)=>(bif decide ((↑s.length:Int)<1) then true else decide ((40:Int)<s.length))=false→x=isL n) fun n=>.ite (bif bif decide ((↑s.length:Int)<1) then true else decide ((40:Int)<s.length) then true else !n) (.leaf (.ret [.bool false] [])) (.leaf (.loop (Prod.fst (lps K49 0)) (Prod.snd (lps K49 0)) [(0,.str s),(20,.int .i64 s.length),(21,.int .i64 0),(31,.undef),(32,.undef),(33,.undef),(34,.undef),(35,.undef),(36,.undef),(39,.undef),(40,.undef),(43,.undef),(44,.undef)] [])))) (by kernel_rfl) ?_
 simp only [Tree.holds,zd,inR,lo,hi]
 have hd:decide ((s.length:Int)<1) = !decide (0<s.length):=by
  by_cases h:0<s.length
  ·rw [decide_eq_true h,decide_eq_false (by omega)]; rfl
  ·rw [decide_eq_false h,decide_eq_true (by omega)]; rfl
 have hd2:decide (40<(s.length:Int)) = !decide (s.length≤40):=by
  by_cases h:s.length≤40
  ·rw [decide_eq_true h,decide_eq_false (by omega)]; rfl
  ·rw [decide_eq_false h,decide_eq_true (by omega)]; rfl
 rw [hd,hd2]
 have hnb:zQ s=(decide (0<s.length)&&decide (s.length≤40)&&isL (s.getD 0 0)&&s.all isN):=rfl
 cases h1:decide (0<s.length) with
 | false=>
  rw [hnb,h1] at hq
  refine⟨fun h=>(by cases h),fun _=>⟨0,fun h=>(by cases h),⟨false,fun h=>(by cases h)⟩,?_⟩⟩
  intro b _
  exact⟨fun _=>RetR.scal hq rfl (by simp [resV]),fun h=>(by cases h)⟩
 | true=>
  have h1':=of_decide_eq_true h1
  cases h2:decide (s.length≤40) with
  | false=>
   rw [hnb,h1,h2] at hq
   refine⟨fun h=>(by cases h),fun _=>⟨0,fun h=>(by cases h),⟨false,fun h=>(by cases h)⟩,?_⟩⟩
   intro b _
   exact⟨fun _=>RetR.scal hq rfl (by simp [resV]),fun h=>(by cases h)⟩
  | true=>
   refine⟨fun _=>by omega,fun _=>⟨s.getD 0 0,fun _=>⟨by simp,trivial⟩,⟨_,fun _=>rfl⟩,?_⟩⟩
   intro b hb
   have hb:=hb rfl
   subst hb
   cases h3:isL (s.getD 0 0) with
   | false=>
    rw [hnb,h1,h2,h3] at hq
    exact⟨fun _=>RetR.scal hq rfl (by simp [resV]),fun h=>(by cases h)⟩
   | true=>
    rw [hnb,h1,h2,h3] at hq
    refine⟨fun h=>(by cases h),fun _=> ?_⟩
    exact za0 s hs hq
noncomputable def K78:List Go.Sx.Item:=[.code (Tryz.f78.body.getD .skip)]
theorem ku{X R:Type}{P:Program}{g:Nat}{fresh:Bool}{inp:X→List AV}{pre:X→Prop}{post:X→R→Prop}{out:X→R→AV×Heap}(μ:X→Nat)
  (step:∀ n,zf P g (ctrP fresh inp (fun x=>μ x<n∧pre x) post out)→zf P g (ctrP fresh inp (fun x=>μ x<n+1∧pre x) post out)):zf P g (ctrP fresh inp pre post out):=by
 have all:∀ n,zf P g (ctrP fresh inp (fun x=>μ x<n∧pre x) post out):=by
  intro n
  induction n with
  | zero=>
   intro args hc Q hq _
   simp only [ctrP] at hq
   split at hq
   ·obtain⟨x,⟨_,h,_⟩,_⟩:=hq
    exact absurd h (Nat.not_lt_zero _)
   ·exact hq.elim
  | succ n ih=>exact step n ih
 intro args hc Q hq hf
 match hc,hq,hf with
 | [],hq,hf=>
  obtain⟨x,⟨h1,h2⟩,h3⟩:=hq
  exact all (μ x+1) args [] Q ⟨x,⟨h1,Nat.lt_succ_self _,h2⟩,h3⟩ hf
 | _::_,hq,_=>exact hq.elim
def YZ(n:Nat):Ctr:=ctrP true (fun x:Ex=>[x.exA]) (fun x=>x.size<n∧x.size<2^62) (fun x r=>r=x.size) (fun _ (r:Nat)=>(.int .i64 (r:Int),[]))
def GSz(g n:Nat):Nat→Option Ctr:=fun f=>if f=g then some (YZ n) else none
theorem zfk{g n:Nat}(h:zf Tryz.prog g (YZ n)):∀ f c,GSz g n f=some c→zf Tryz.prog f c:=by
 intro f c hf
 simp only [GSz] at hf
 split at hf
 ·rename_i hg; subst hg; cases hf; exact h
 ·cases hf
theorem Zq{x:Ex}{k d:Int}{r m:List UInt8}{l:Nat}{g:Nat→Nat→AV}(hk:k=x.kind)(hr:r=x.rat)(hm:m=x.name)(hd:d=x.date)(hl:l=x.sub.length)(hg:eqG x.sub.length 5 g (Ex.exG x.sub)):eqL [.agg [.int .u8 k,.str r,.str m,.int .i64 d,.sl l 5 g]] [x.exA]:=by
 subst hk; subst hr; subst hm; subst hd; subst hl
 exact⟨⟨⟨rfl,rfl⟩,rfl,rfl,⟨rfl,rfl⟩,⟨rfl,rfl,hg⟩,trivial⟩,trivial⟩
def SSz(s:List Ex)(c i:Nat):KV:=[(3,.int .i64 (c:Int)),(7,Ex.exS s),(8,.int .i64 (s.length:Int)),(9,.int .i64 (i:Int))]
theorem UZ(n:Nat)(ih:zf Tryz.prog 78 (YZ n)):zf Tryz.prog 78 (YZ (n+1)):=by
 refine zi (fn:=Tryz.f78) (c:=Tryz.f78.body.getD .skip) rfl rfl rfl fun x hx O w0 Q hq=> ?_
 replace hq:=hq _ rfl
 obtain⟨hxn,hxs⟩:=hx
 rw [Ex.size_eq] at hxn hxs hq
 obtain⟨k,r,m,d,s⟩:=x
 simp only [Ex.sub] at hxn hxs hq
 refine zc.run hmix (zfk ih) [3,7,8,9] 400 (T:=.leaf (.loop (Prod.fst (lps K78 0)) (Prod.snd (lps K78 0)) [(3,.int .i64 1),(7,.sl s.length 5 (Ex.exG s)),(8,.int .i64 s.length),(9,.int .i64 0)] [.box [.int .u8 k,.str r,.str m,.int .i64 d,.sl s.length 5 (Ex.exG s)]])) (by kernel_rfl) ?_
 simp only [Tree.holds,zd]
 have hlen:=Ex.qt s
 refine zc.loop (ι:={i:Nat // i≤s.length}) (fun i=>SSz s (1+Ex.zr (s.take i.1)) i.1) (fun _=>[]) (fun i=>s.length - i.1) ⟨0,Nat.zero_le _⟩ 0 ?_ ?_ (by kernel_rfl)
 ·exact⟨by simp [SSz,Ex.zr,Ex.exS,zb],by simp,by kernel_rfl,Nat.zero_le _⟩
 ·rintro⟨i,hil⟩
  have hle:=Ex.xK s i
  obtain⟨c,hc⟩:∃ c,1+Ex.zr (s.take i)=c:=⟨_,rfl⟩
  simp only [hc]
  refine zc.run hmix (zfk ih) [3,7,8,9] 400 (T:=.ite (decide ((↑i:Int)<s.length)) (.side ((0:Int)≤i∧(↑i:Int)<s.length) (.ex (fun(x:Ex)=>eqL [AV.agg [AV.int .u8 (Ex.kind (s.getD (↑i:Int).toNat Ex.nil)),AV.str (Ex.rat (s.getD (↑i:Int).toNat Ex.nil)),AV.str (Ex.name (s.getD (↑i:Int).toNat Ex.nil)),AV.int .i64 (Ex.date (s.getD (↑i:Int).toNat Ex.nil)),AV.sl (List.length (Ex.sub (s.getD (↑i:Int).toNat Ex.nil))) 5 (Ex.deep (s.getD (↑i:Int).toNat Ex.nil))]] [AV.agg [AV.int .u8 x.kind,AV.str x.rat,AV.str x.name,AV.int .i64 x.date,AV.sl x.sub.length 5 (Ex.exG x.sub)]]∧Ex.size x<n∧Ex.size x<4611686018427387904) fun n=>.all (fun(r:Nat)=>r=Ex.size n) fun n=>.side (inR .i64 ((↑c:Int)+n)) (.side (inR .i64 ((↑i:Int)+(1:Int))) (.leaf (.back 0 [(3,.int .i64 ((↑c:Int)+n)),(7,.sl s.length 5 (Ex.exG s)),(8,.int .i64 s.length),(9,.int .i64 ((↑i:Int)+(1:Int)))] [.box [.int .u8 (Ex.kind (s.getD (↑i:Int).toNat Ex.nil)),.str (Ex.rat (s.getD (↑i:Int).toNat Ex.nil)),.str (Ex.name (s.getD (↑i:Int).toNat Ex.nil)),.int .i64 (Ex.date (s.getD (↑i:Int).toNat Ex.nil)),.sl (List.length (Ex.sub (s.getD (↑i:Int).toNat Ex.nil))) 5 (Ex.deep (s.getD (↑i:Int).toNat Ex.nil))]]))))) (.leaf (.ret [.int .i64 c] []))) (by kernel_rfl) ?_
  simp only [Tree.holds,zd,inR,lo,hi,Int.toNat_natCast]
  refine⟨fun hlt=> ?_,fun hge=> ?_⟩
  ·have hlt:i<s.length:=by have:=of_decide_eq_true hlt; omega
   have hg:=Ex.wv hlt
   have ht:=Ex.Q6 s i hlt
   have hle2:=Ex.xK s (i+1)
   refine⟨by omega,fun _=>⟨s.getD i Ex.nil,⟨Zq rfl rfl rfl rfl rfl (Ex.qX _),by omega,by omega⟩,⟨_,rfl⟩,?_⟩⟩
   rintro _ rfl
   refine⟨by omega,fun _=>⟨by omega,fun _=> ?_⟩⟩
   rw [if_pos trivial]
   refine⟨⟨i+1,hlt⟩,by show s.length - (i+1)<s.length - i; omega,?_,by simp,by kernel_rfl,Nat.zero_le _⟩
   simp [SSz,Ex.exS,zb,ht]; omega
  ·have hge:i=s.length:=by have:=of_decide_eq_false hge; omega
   subst hge
   rw [List.take_length] at hc
   rw [hc] at hq
   exact RetR.scal hq rfl (by simp [resV])
def Ub:Ctr:=ctrP true (fun x:Ex=>[x.exA]) (fun x=>x.size<2^62) (fun x r=>r=x.size) (fun _ (r:Nat)=>(.int .i64 (r:Int),[]))
theorem U8:zf Tryz.prog 78 Ub:=ku Ex.size UZ
def G1c(g:Nat)(C:Ctr):Nat→Option Ctr:=fun f=>if f=g then some C else none
theorem wL{g:Nat}{C:Ctr}(h:zf Tryz.prog g C):∀ f c,G1c g C f=some c→zf Tryz.prog f c:=by
 intro f c hf
 simp only [G1c] at hf
 split at hf
 ·rename_i hg; subst hg; cases hf; exact h
 ·cases hf
noncomputable def K79:List Go.Sx.Item:=[.code (Tryz.f79.body.getD .skip)]
def zbv(n:Nat):Ctr:=ctrP true (fun p:Ex×Nat=>[p.1.exA,.int .i64 (p.2:Int)]) (fun p=>p.1.size<n∧p.1.size<2^62∧p.2<2^40) (fun p r=>r=min p.1.depth (p.2+1)) (fun _ (r:Nat)=>(.int .i64 (r:Int),[]))
def SDp(s:List Ex)(limit c i:Nat):KV:=[(1,.int .i64 (limit:Int)),(5,.int .i64 (c:Int)),(11,Ex.exS s),(12,.int .i64 (s.length:Int)),(13,.int .i64 (i:Int))]
theorem Xv(n:Nat)(ih:zf Tryz.prog 79 (zbv n)):zf Tryz.prog 79 (zbv (n+1)):=by
 refine zi (fn:=Tryz.f79) (c:=Tryz.f79.body.getD .skip) rfl rfl rfl fun p hp O w0 Q hq=> ?_
 obtain⟨x,limit⟩:=p
 obtain⟨hxn,hxs,hli⟩:=hp
 replace hq:=hq _ rfl
 simp only at hxn hxs hli hq
 have hds:=Ex.vZ x
 have hdp:=Ex.zbc x
 rw [Ex.kq] at hq hds hdp
 rw [Ex.size_eq] at hxn hxs hds
 obtain⟨k,r,m,d,s⟩:=x
 simp only [Ex.sub] at hxn hxs hq hds hdp
 have hlen:=Ex.qt s
 refine zc.run hmix (wL ih) [1,5,11,12,13] 400 (T:=.ite (decide ((0:Int)<limit)) (.leaf (.loop (Prod.fst (lps K79 0)) (Prod.snd (lps K79 0)) [(1,.int .i64 limit),(5,.int .i64 0),(11,.sl s.length 5 (Ex.exG s)),(12,.int .i64 s.length),(13,.int .i64 0)] [.box [.int .u8 k,.str r,.str m,.int .i64 d,.sl s.length 5 (Ex.exG s)]])) (.side (inR .i64 (1:Int)) (.leaf (.ret [.int .i64 1] [.box [.int .u8 k,.str r,.str m,.int .i64 d,.sl s.length 5 (Ex.exG s)]])))) (by kernel_rfl) ?_
 simp only [Tree.holds,zd,inR,lo,hi,Int.toNat_natCast]
 refine⟨fun hl=> ?_,fun hl=> ?_⟩
 ·have hl:0<limit:=by have:=of_decide_eq_true hl; omega
  refine zc.loop (ι:={i:Nat // i≤s.length}) (fun i=>SDp s limit (min (Ex.zy (s.take i.1)) limit) i.1) (fun _=>[]) (fun i=>s.length - i.1) ⟨0,Nat.zero_le _⟩ 0 ?_ ?_ (by kernel_rfl)
  ·exact⟨by simp [SDp,Ex.zy,Ex.exS,zb],by simp,by kernel_rfl,Nat.zero_le _⟩
  ·rintro⟨i,hil⟩
   obtain⟨c,hc⟩:∃ c,min (Ex.zy (s.take i)) limit=c:=⟨_,rfl⟩
   simp only [hc]
   refine zc.run hmix (wL ih) [1,5,11,12,13] 400 (T:=.ite (decide ((↑i:Int)<s.length)) (.side ((0:Int)≤i∧(↑i:Int)<s.length) (.side (inR .i64 ((↑limit:Int) - (1:Int))) (.ex (fun(x:Ex×Nat)=>eqL [AV.agg [AV.int .u8 (Ex.kind (s.getD (↑i:Int).toNat Ex.nil)),AV.str (Ex.rat (s.getD (↑i:Int).toNat Ex.nil)),AV.str (Ex.name (s.getD (↑i:Int).toNat Ex.nil)),AV.int .i64 (Ex.date (s.getD (↑i:Int).toNat Ex.nil)),AV.sl (List.length (Ex.sub (s.getD (↑i:Int).toNat Ex.nil))) 5 (Ex.deep (s.getD (↑i:Int).toNat Ex.nil))],AV.int .i64 ((↑limit:Int) - (1:Int))] [AV.agg [AV.int .u8 x.1.kind,AV.str x.1.rat,AV.str x.1.name,AV.int .i64 x.1.date,AV.sl x.1.sub.length 5 (Ex.exG x.1.sub)],AV.int .i64 x.2]∧Ex.size x.1<n∧Ex.size x.1<4611686018427387904∧x.2<1099511627776) fun n=>.all (fun(r:Nat)=>r=min n.1.depth (n.2+1)) fun n=>.side (inR .i64 ((↑i:Int)+(1:Int))) (.leaf (.back 0 [(1,.int .i64 limit),(5,.int .i64 (max (↑c:Int) (↑n:Int))),(11,.sl s.length 5 (Ex.exG s)),(12,.int .i64 s.length),(13,.int .i64 ((↑i:Int)+(1:Int)))] [.box [.int .u8 (Ex.kind (s.getD (↑i:Int).toNat Ex.nil)),.str (Ex.rat (s.getD (↑i:Int).toNat Ex.nil)),.str (Ex.name (s.getD (↑i:Int).toNat Ex.nil)),.int .i64 (Ex.date (s.getD (↑i:Int).toNat Ex.nil)),.sl (List.length (Ex.sub (s.getD (↑i:Int).toNat Ex.nil))) 5 (Ex.deep (s.getD (↑i:Int).toNat Ex.nil))]]))))) (.side (inR .i64 ((↑c:Int)+(1:Int))) (.leaf (.ret [.int .i64 ((↑c:Int)+(1:Int))] [])))) (by kernel_rfl) ?_
   simp only [Tree.holds,zd,inR,lo,hi,Int.toNat_natCast]
   refine⟨fun hlt=> ?_,fun hge=> ?_⟩
   ·have hlt:i<s.length:=by have:=of_decide_eq_true hlt; omega
    have hg:=Ex.wv hlt
    have ht:=Ex.wE s i hlt
    refine⟨by omega,fun _=>⟨by omega,fun _=>⟨(s.getD i Ex.nil,limit - 1),⟨?_,by show(s.getD i Ex.nil).size<n; omega,by show(s.getD i Ex.nil).size<2^62; omega,by show limit - 1<2^40; omega⟩,⟨_,rfl⟩,?_⟩⟩⟩
    ·have e1:(limit:Int) - 1=((limit - 1:Nat):Int):=by omega
     rw [e1]
     exact⟨⟨⟨rfl,rfl⟩,rfl,rfl,⟨rfl,rfl⟩,⟨rfl,rfl,Ex.qX _⟩,trivial⟩,⟨rfl,rfl⟩,trivial⟩
    rintro _ rfl
    refine⟨by omega,fun _=> ?_⟩
    rw [if_pos trivial]
    refine⟨⟨i+1,hlt⟩,by show s.length - (i+1)<s.length - i; omega,?_,by simp,by kernel_rfl,Nat.zero_le _⟩
    simp [SDp,ht,Ex.exS,zb]; omega
   ·have hge:i=s.length:=by have:=of_decide_eq_false hge; omega
    subst hge
    rw [List.take_length] at hc
    refine⟨by omega,fun _=> ?_⟩
    exact RetR.scal hq rfl (by simp [resV]; omega)
 ·have hl:limit=0:=by have:=of_decide_eq_false hl; omega
  refine⟨by decide,fun _=> ?_⟩
  exact RetR.scal hq rfl (by simp [resV]; omega)
theorem zf6:zf Tryz.prog 79 (ctrP true (fun p:Ex×Nat=>[p.1.exA,.int .i64 (p.2:Int)]) (fun p=>p.1.size<2^62∧p.2<2^40) (fun p r=>r=min p.1.depth (p.2+1)) (fun _ (r:Nat)=>(.int .i64 (r:Int),[]))):=ku (fun p=>p.1.size) Xv
noncomputable def K80:List Go.Sx.Item:=[.code (Tryz.f80.body.getD .skip)]
def zj2:Ctr:=ctrP true (fun x:Ex=>[x.exA]) (fun x=>x.rat.length<2^40∧x.name.length<2^40) (fun x r=>r=bif ja x.kind x.rat x.name x.date x.sub.length then 1 else 0) (fun _ (r:Int)=>(.int .u8 r,[]))
noncomputable def GLf:Nat→Option Ctr:=fun f=>if f=50 then some (yy) else if f=49 then some (JI) else if f=67 then some (Vt) else none
theorem zk7:∀ g c,GLf g=some c→zf Tryz.prog g c:=okIf xE (okIf Zs (okIf JH (zx)))
theorem zi3:zf Tryz.prog 123 zj2:=by
 refine zi (fn:=Tryz.f123) (c:=Tryz.f123.body.getD .skip) rfl rfl rfl fun x hx O w0 Q hq=> ?_
 obtain⟨k,r,m,d,s⟩:=x
 replace hq:=hq _ rfl
 obtain⟨h1,h2⟩:=hx
 simp only [Ex.rat,Ex.name,Ex.kind,Ex.date,Ex.sub] at h1 h2 hq
 refine zc.run hmix zk7 [] 400 (T:=.ite (decide (k=1)) (.ex (fun(x:List UInt8)=>decide ((↑s.length:Int)=0)=true→eqL [AV.str r] [AV.str x]∧x.length<4611686018427387904) fun n=>.all (fun(x:Int)=>decide ((↑s.length:Int)=0)=true→x=errR n) fun n=>.ite (!bif bif bif decide ((↑s.length:Int)=0) then decide (n=0) else false then decide (m=#[].toList) else false then decide (d=0) else false) (.leaf (.ret [.int .u8 0] [.box [.int .u8 k,.str r,.str m,.int .i64 d,.sl s.length 5 (Ex.exG s)]])) (.leaf (.ret [.int .u8 1] [.box [.int .u8 k,.str r,.str m,.int .i64 d,.sl s.length 5 (Ex.exG s)]]))) (.ite (decide (k=2)) (.ex (fun(x:List UInt8)=>(bif decide ((↑s.length:Int)=0) then decide (r=#[].toList) else false)=true→eqL [AV.str m] [AV.str x]∧x.length<4611686018427387904) fun n=>.all (fun(x:Bool)=>(bif decide ((↑s.length:Int)=0) then decide (r=#[].toList) else false)=true→x=zQ n) fun n=>.ex (fun(x:Int)=>(bif bif decide ((↑s.length:Int)=0) then decide (r=#[].toList) else false then n else false)=true→eqL [AV.int .i64 d] [AV.int .i64 x]∧True) fun n_1=>.all (fun(x:Bool)=>(bif bif decide ((↑s.length:Int)=0) then decide (r=#[].toList) else false then n else false)=true→x=dayB n_1) fun n_2=>.ite (!bif bif bif decide ((↑s.length:Int)=0) then decide (r=#[].toList) else false then n else false then n_2 else false) (.leaf (.ret [.int .u8 0] [.box [.int .u8 k,.str r,.str m,.int .i64 d,.sl s.length 5 (Ex.exG s)]])) (.leaf (.ret [.int .u8 1] [.box [.int .u8 k,.str r,.str m,.int .i64 d,.sl s.length 5 (Ex.exG s)]]))) (.ite (decide (k=3)) (.ex (fun(x:List UInt8)=>(bif decide ((↑s.length:Int)=0) then decide (r=#[].toList) else false)=true→eqL [AV.str m] [AV.str x]∧x.length<4611686018427387904) fun n=>.all (fun(x:Bool)=>(bif decide ((↑s.length:Int)=0) then decide (r=#[].toList) else false)=true→x=zQ n) fun n=>.ite (!bif bif bif decide ((↑s.length:Int)=0) then decide (r=#[].toList) else false then n else false then decide (d=0) else false) (.leaf (.ret [.int .u8 0] [.box [.int .u8 k,.str r,.str m,.int .i64 d,.sl s.length 5 (Ex.exG s)]])) (.leaf (.ret [.int .u8 1] [.box [.int .u8 k,.str r,.str m,.int .i64 d,.sl s.length 5 (Ex.exG s)]]))) (.ite true (.leaf (.ret [.int .u8 0] [.box [.int .u8 k,.str r,.str m,.int .i64 d,.sl s.length 5 (Ex.exG s)]])) (.leaf (.ret [.int .u8 1] [.box [.int .u8 k,.str r,.str m,.int .i64 d,.sl s.length 5 (Ex.exG s)]])))))) (by kernel_rfl) ?_
 simp only [Tree.holds,zd,inR,lo,hi,Int.toNat_natCast]
 have fin:∀ T:Bool,T=ja k r m d s.length→((!T)=true→Q (.int .u8 0,[]))∧((!T)=false→Q (.int .u8 1,[])):=by
  intro T hT
  subst hT
  cases hl:ja k r m d s.length with
  | true=>rw [hl] at hq; exact⟨fun h=>(by cases h),fun _=>hq⟩
  | false=>rw [hl] at hq; exact⟨fun _=>hq,fun h=>(by cases h)⟩
 refine⟨fun hk=> ?_,fun hk=> ?_⟩
 ·have hk:k=1:=of_decide_eq_true hk
  refine⟨r,fun _=>⟨by simp,by omega⟩,⟨_,fun _=>rfl⟩,?_⟩
  intro e he
  have F:=fin (bif bif bif decide ((s.length:Int)=0) then decide (e=0) else false then decide (m=[]) else false then decide (d=0) else false) (by
   by_cases hl:s.length=0
   ·have:=he (by simp [hl])
    subst this
    simp [ja,hk,hl,Bool.and_assoc]
   ·simp [ja,hl])
  exact⟨fun h=>RetR.scal (F.1 h) rfl (by simp [resV]),fun h=>RetR.scal (F.2 h) rfl (by simp [resV])⟩
 ·have hk1:k≠1:=of_decide_eq_false hk
  refine⟨fun hk=> ?_,fun hk=> ?_⟩
  ·have hk:k=2:=of_decide_eq_true hk
   refine⟨m,fun _=>⟨by simp,by omega⟩,⟨_,fun _=>rfl⟩,?_⟩
   intro e he
   refine⟨d,fun _=>⟨by simp,trivial⟩,⟨_,fun _=>rfl⟩,?_⟩
   intro f hf
   have F:=fin (bif bif bif decide ((s.length:Int)=0) then decide (r=[]) else false then e else false then f else false) (by
    by_cases hl:s.length=0
    ·by_cases hr:r=[]
     ·have:=he (by simp [hl,hr])
      subst this
      cases hn:zQ m with
      | true=>
       have:=hf (by simp [hl,hr,hn])
       subst this
       simp [ja,hk,hl,hr,hn]
      | false=>simp [ja,hk,hl,hr,hn]
     ·simp [ja,hk,hl,hr]
    ·simp [ja,hl])
   exact⟨fun h=>RetR.scal (F.1 h) rfl (by simp [resV]),fun h=>RetR.scal (F.2 h) rfl (by simp [resV])⟩
  ·have hk2:k≠2:=of_decide_eq_false hk
   refine⟨fun hk=> ?_,fun hk=> ?_⟩
   ·have hk:k=3:=of_decide_eq_true hk
    refine⟨m,fun _=>⟨by simp,by omega⟩,⟨_,fun _=>rfl⟩,?_⟩
    intro e he
    have F:=fin (bif bif bif decide ((s.length:Int)=0) then decide (r=[]) else false then e else false then decide (d=0) else false) (by
     by_cases hl:s.length=0
     ·by_cases hr:r=[]
      ·have:=he (by simp [hl,hr])
       subst this
       simp [ja,hk,hl,hr]
      ·simp [ja,hk,hl,hr]
     ·simp [ja,hl])
    exact⟨fun h=>RetR.scal (F.1 h) rfl (by simp [resV]),fun h=>RetR.scal (F.2 h) rfl (by simp [resV])⟩
   ·have hk3:k≠3:=of_decide_eq_false hk
    have F:=fin false (by simp [ja,hk1,hk2,hk3])
    exact⟨fun h=>RetR.scal (F.1 rfl) rfl (by simp [resV]),fun h=>by cases h⟩
def SSo(s:List Ex)(i:Nat):KV:=[(3,.ptr 1 0),(41,Ex.exS s),(42,.int .i64 (s.length:Int)),(43,.int .i64 (i:Int))]
def HSo(k:Int):Heap:=[.dead,.box [.sl (j5 k) 1 fun j _=>.int .u8 (qF k j),.int .u8 (j4 k)]]
def UG(n:Nat):Ctr:=ctrP true (fun x:Ex=>[x.exA]) (fun x=>x.size<n∧x.size<2^60∧x.zu<2^40) (fun x r=>r=x.zJ) (fun _ (r:Int)=>(.int .u8 r,[]))
def GSo(n:Nat):Nat→Option Ctr:=fun f=>if f=80 then some (UG n) else if f=123 then some zj2 else none
theorem zeu{n:Nat}(h:zf Tryz.prog 80 (UG n)):∀ f c,GSo n f=some c→zf Tryz.prog f c:=by
 intro f c hf
 simp only [GSo] at hf
 split at hf
 ·rename_i hg; subst hg; cases hf; exact h
 ·split at hf
  ·rename_i hg; subst hg; cases hf; exact zi3
  ·cases hf
theorem za1(n:Nat)(ih:zf Tryz.prog 80 (UG n)):zf Tryz.prog 80 (UG (n+1)):=by
 refine zi (fn:=Tryz.f80) (c:=Tryz.f80.body.getD .skip) rfl rfl rfl fun x hx O w0 Q hq=> ?_
 replace hq:=hq _ rfl
 obtain⟨hxn,hxs,hxb⟩:=hx
 rw [Ex.size_eq] at hxn hxs
 rw [Ex.zam] at hxb
 rw [Ex.ze8] at hq
 obtain⟨k,r,m,d,s⟩:=x
 simp only [Ex.sub,Ex.rat,Ex.name,Ex.kind,Ex.date] at hxn hxs hq hxb
 refine zc.run hmix (zeu ih) [3,41,42,43] 400 (T:=.ite (jN k) (.ite false (.ex (fun(x:Ex)=>eqL [AV.agg [AV.int .u8 k,AV.str r,AV.str m,AV.int .i64 d,AV.sl s.length 5 (Ex.exG s)]] [AV.agg [AV.int .u8 x.kind,AV.str x.rat,AV.str x.name,AV.int .i64 x.date,AV.sl x.sub.length 5 (Ex.exG x.sub)]]∧x.rat.length<1099511627776∧x.name.length<1099511627776) fun n=>.all (fun(r:Int)=>r=bif ja n.kind n.rat n.name n.date n.sub.length then(1:Int) else(0:Int)) fun n=>.leaf (.ret [.int .u8 n] [.box [.int .u8 k,.str r,.str m,.int .i64 d,.sl s.length 5 (Ex.exG s)],.box [.sl (j5 k) 1 fun(j x:Nat)=>.int .u8 (qF k j),.int .u8 (j4 k)]])) (.ite (bif bif bif !decide ((↑s.length:Int)=(↑(j5 k):Int)) then true else !decide (r=#[].toList) then true else !decide (m=#[].toList) then true else !decide (d=0)) (.leaf (.ret [.int .u8 0] [.box [.int .u8 k,.str r,.str m,.int .i64 d,.sl s.length 5 (Ex.exG s)],.box [.sl (j5 k) 1 fun(j x:Nat)=>.int .u8 (qF k j),.int .u8 (j4 k)]])) (.leaf (.loop (Prod.fst (lps K80 0)) (Prod.snd (lps K80 0)) [(3,.ptr 1 0),(41,.sl s.length 5 (Ex.exG s)),(42,.int .i64 s.length),(43,.int .i64 0)] [.box [.int .u8 k,.str r,.str m,.int .i64 d,.sl s.length 5 (Ex.exG s)],.box [.sl (j5 k) 1 fun(j x:Nat)=>.int .u8 (qF k j),.int .u8 (j4 k)]])))) (.ite true (.ex (fun(x:Ex)=>eqL [AV.agg [AV.int .u8 k,AV.str r,AV.str m,AV.int .i64 d,AV.sl s.length 5 (Ex.exG s)]] [AV.agg [AV.int .u8 x.kind,AV.str x.rat,AV.str x.name,AV.int .i64 x.date,AV.sl x.sub.length 5 (Ex.exG x.sub)]]∧x.rat.length<1099511627776∧x.name.length<1099511627776) fun n=>.all (fun(r:Int)=>r=bif ja n.kind n.rat n.name n.date n.sub.length then(1:Int) else(0:Int)) fun n=>.leaf (.ret [.int .u8 n] [.box [.int .u8 k,.str r,.str m,.int .i64 d,.sl s.length 5 (Ex.exG s)],.box [.nils,.int .u8 0]])) (.ite (bif bif bif !decide ((↑s.length:Int)=0) then true else !decide (r=#[].toList) then true else !decide (m=#[].toList) then true else !decide (d=0)) (.leaf (.ret [.int .u8 0] [.box [.int .u8 k,.str r,.str m,.int .i64 d,.sl s.length 5 (Ex.exG s)],.box [.nils,.int .u8 0]])) (.leaf (.loop (Prod.fst (lps K80 0)) (Prod.snd (lps K80 0)) [(3,.ptr 1 0),(41,.sl s.length 5 (Ex.exG s)),(42,.int .i64 s.length),(43,.int .i64 0)] [.box [.int .u8 k,.str r,.str m,.int .i64 d,.sl s.length 5 (Ex.exG s)],.box [.nils,.int .u8 0]]))))) (by kernel_rfl) ?_
 simp only [Tree.holds,zd,inR,lo,hi,Int.toNat_natCast]
 refine⟨fun hk=>⟨fun h=>(by cases h),fun _=>⟨fun h=> ?_,fun h=> ?_⟩⟩,fun hk=> ?_⟩
 ·have hn:¬ (r=[]∧m=[]∧d=0∧Ex.zW s=qu k):=by
   rintro⟨rfl,rfl,rfl,h4⟩
   have:s.length=j5 k:=by rw [← Ex.jl,h4]; rfl
   simp [this] at h
  have e:vR k r m d (Ex.zW s)=0:=by unfold vR; rw [if_pos hk,if_neg hn]
  exact RetR.scal hq rfl (by simp [resV,e])
 ·have hh:s.length=j5 k∧r=[]∧m=[]∧d=0:=by
   simp at h
   obtain⟨⟨⟨h1,h2⟩,h3⟩,h4⟩:=h
   exact⟨by omega,h2,h3,h4⟩
  obtain⟨hl,rfl,rfl,rfl⟩:=hh
  have hlen:=Ex.qt s
  have e1:vR k [] [] 0 (Ex.zW s)=if Ex.zW s=qu k then j4 k else 0:=by unfold vR; rw [if_pos hk]; simp
  rw [e1] at hq
  clear h e1
  refine zc.loop (ι:={i:Nat // i≤s.length∧∀ j,j<i→(s.getD j Ex.nil).zJ=qF k j}) (fun i=>SSo s i.1) (fun _=>HSo k) (fun i=>s.length - i.1) ⟨0,Nat.zero_le _,fun j hj=>by omega⟩ 0 ?_ ?_ (by kernel_rfl)
  ·exact⟨by simp [SSo,Ex.exS,zb],by simp [HSo,zb],by kernel_rfl,Nat.zero_le _⟩
  ·rintro⟨i,hil,hib⟩
   refine zc.run hmix (zeu ih) [3,41,42,43] 400 (T:=.ite (decide ((↑i:Int)<s.length)) (.side ((0:Int)≤i∧(↑i:Int)<s.length) (.side ((0:Int)≤i∧(↑i:Int)<(↑(j5 k):Int)) (.ex (fun(x:Ex)=>eqL [AV.agg [AV.int .u8 (Ex.kind (s.getD (↑i:Int).toNat Ex.nil)),AV.str (Ex.rat (s.getD (↑i:Int).toNat Ex.nil)),AV.str (Ex.name (s.getD (↑i:Int).toNat Ex.nil)),AV.int .i64 (Ex.date (s.getD (↑i:Int).toNat Ex.nil)),AV.sl (List.length (Ex.sub (s.getD (↑i:Int).toNat Ex.nil))) 5 (Ex.deep (s.getD (↑i:Int).toNat Ex.nil))]] [AV.agg [AV.int .u8 x.kind,AV.str x.rat,AV.str x.name,AV.int .i64 x.date,AV.sl x.sub.length 5 (Ex.exG x.sub)]]∧Ex.size x<n∧Ex.size x<1152921504606846976∧Ex.zu x<1099511627776) fun n=>.all (fun(r:Int)=>r=Ex.zJ n) fun n=>.ite (!decide (n=qF k (↑i:Int).toNat)) (.leaf (.ret [.int .u8 0] [.dead,.box [.sl (j5 k) 1 fun(j x:Nat)=>.int .u8 (qF k j),.int .u8 (j4 k)],.box [.int .u8 (Ex.kind (s.getD (↑i:Int).toNat Ex.nil)),.str (Ex.rat (s.getD (↑i:Int).toNat Ex.nil)),.str (Ex.name (s.getD (↑i:Int).toNat Ex.nil)),.int .i64 (Ex.date (s.getD (↑i:Int).toNat Ex.nil)),.sl (List.length (Ex.sub (s.getD (↑i:Int).toNat Ex.nil))) 5 (Ex.deep (s.getD (↑i:Int).toNat Ex.nil))]])) (.side (inR .i64 ((↑i:Int)+(1:Int))) (.leaf (.back 0 [(3,.ptr 1 0),(41,.sl s.length 5 (Ex.exG s)),(42,.int .i64 s.length),(43,.int .i64 ((↑i:Int)+(1:Int)))] [.dead,.box [.sl (j5 k) 1 fun(j x:Nat)=>.int .u8 (qF k j),.int .u8 (j4 k)],.box [.int .u8 (Ex.kind (s.getD (↑i:Int).toNat Ex.nil)),.str (Ex.rat (s.getD (↑i:Int).toNat Ex.nil)),.str (Ex.name (s.getD (↑i:Int).toNat Ex.nil)),.int .i64 (Ex.date (s.getD (↑i:Int).toNat Ex.nil)),.sl (List.length (Ex.sub (s.getD (↑i:Int).toNat Ex.nil))) 5 (Ex.deep (s.getD (↑i:Int).toNat Ex.nil))]])))))) (.leaf (.ret [.int .u8 (j4 k)] [.dead,.box [.sl (j5 k) 1 fun(j x:Nat)=>.int .u8 (qF k j),.int .u8 (j4 k)]]))) (by kernel_rfl) ?_
   simp only [Tree.holds,zd,inR,lo,hi,Int.toNat_natCast]
   refine⟨fun hlt=> ?_,fun hge=> ?_⟩
   ·have hlt:i<s.length:=by have:=of_decide_eq_true hlt; omega
    have hg:=Ex.wv hlt
    have hg2:=Ex.X8 hlt
    have hb0:Ex.qD s<2^40:=by simpa using hxb
    refine⟨by omega,fun _=>⟨by omega,fun _=>⟨s.getD i Ex.nil,⟨Zq rfl rfl rfl rfl rfl (Ex.qX _),by omega,by omega,by omega⟩,⟨_,rfl⟩,?_⟩⟩⟩
    intro e he
    refine⟨fun h=> ?_,fun h=>⟨by omega,fun _=> ?_⟩⟩
    ·have hne:¬ Ex.zW s=qu k:=by
      intro h2
      have:=(Ex.V6.1 h2).2 i hlt
      rw [← he] at this
      have h3:¬ e=qF k i:=by simpa using h
      exact h3 this
     rw [if_neg hne] at hq
     exact RetR.scal hq rfl (by simp [resV])
    ·rw [if_pos trivial]
     have h3:e=qF k i:=by simpa using h
     refine⟨⟨i+1,hlt,fun j hj=> ?_⟩,by show s.length - (i+1)<s.length - i; omega,by simp [SSo,Ex.exS,zb],by simp [HSo,zb],by kernel_rfl,Nat.zero_le _⟩
     rcases Nat.lt_or_ge j i with h1 | h1
     ·exact hib j h1
     ·have:j=i:=by omega
      rw [this,← he,h3]
   ·have hge:i=s.length:=by have:=of_decide_eq_false hge; omega
    subst hge
    have:Ex.zW s=qu k:=Ex.V6.2 ⟨hl,hib⟩
    rw [if_pos this] at hq
    exact RetR.scal hq rfl (by simp [resV])
 ·refine⟨fun _=> ?_,fun h=>(by cases h)⟩
  refine⟨.mk k r m d s,⟨⟨⟨⟨rfl,rfl⟩,rfl,rfl,⟨rfl,rfl⟩,⟨rfl,rfl,zb _ _ _⟩,trivial⟩,trivial⟩,by show r.length<_; omega,by show m.length<_; omega⟩,⟨_,rfl⟩,?_⟩
  intro e he
  have e1:vR k r m d (Ex.zW s)=e:=by
   unfold vR
   rw [if_neg (by rw [hk]; decide),he,Ex.jl]
   show _=bif ja k r m d s.length then 1 else 0
   cases ja k r m d s.length<;>rfl
  rw [e1] at hq
  exact RetR.scal hq rfl (by simp [resV])
def Ve:Ctr:=ctrP true (fun x:Ex=>[x.exA]) (fun x=>x.size<2^60∧x.zu<2^40) (fun x r=>r=x.zJ) (fun _ (r:Int)=>(.int .u8 r,[]))
theorem YQ:zf Tryz.prog 80 Ve:=ku Ex.size za1
def zcr:Ctr:=ctrP true (fun x:Ex=>[x.exA]) (fun x=>x.size<2^62) (fun x r=>r=x.size) (fun _ (r:Nat)=>(.int .i64 (r:Int),[]))
def zex:Ctr:=ctrP true (fun p:Ex×Nat=>[p.1.exA,.int .i64 (p.2:Int)]) (fun p=>p.1.size<2^62∧p.2<2^40) (fun p r=>r=min p.1.depth (p.2+1)) (fun _ (r:Nat)=>(.int .i64 (r:Int),[]))
def W7:Ctr:=ctrP true (fun x:Ex=>[x.exA]) (fun x=>x.size<2^40∧x.zu<2^40) (fun x r=>r=x.errX) (fun _ (r:Int)=>(.int .i64 r,[]))
def UA(z:Int):Ctr:=ctrP true (fun x:Ex=>[x.exA]) (fun x=>x.size<2^40∧x.zu<2^40) (fun x r=>r=(decide (x.errX=0)&&decide (x.zJ=z))) (fun _ (r:Bool)=>(.bool r,[]))
theorem eqX(x:Ex):eqL [.agg [.int .u8 x.kind,.str x.rat,.str x.name,.int .i64 x.date,.sl x.sub.length 5 (Ex.exG x.sub)]] [x.exA]:=Zq rfl rfl rfl rfl rfl (zb _ _ _)
theorem zai{x:Ex}{n:Nat}(hn:decide (500<(x.size:Int))=false→(60<n↔60<x.depth)) :
  ((bif decide (500<(x.size:Int)) then true else decide (60<(n:Int)))=true→x.errX=4)∧((bif decide (500<(x.size:Int)) then true else decide (60<(n:Int)))=false→x.errX=if x.zJ=0 then 8 else 0):=by
 by_cases h:500<x.size
 ·have e:decide (500<(x.size:Int))=true:=decide_eq_true (by omega)
  rw [e]
  exact⟨fun _=>if_pos (.inl h),fun h=>by cases h⟩
 ·have e:decide (500<(x.size:Int))=false:=decide_eq_false (by omega)
  have h2:=hn e
  rw [e]
  simp only [cond_false]
  by_cases h3:60<n
  ·exact⟨fun _=>if_pos (.inr (h2.1 h3)),fun h=>by have:=of_decide_eq_false h; omega⟩
  ·refine⟨fun h=>by have:=of_decide_eq_true h; omega,fun _=> ?_⟩
   unfold Ex.errX
   rw [if_neg]
   rintro(h4 | h4)
   ·exact h h4
   ·exact h3 (h2.2 h4)
noncomputable def GCk:Nat→Option Ctr:=fun f=>if f=78 then some (zcr) else if f=79 then some (zex) else if f=80 then some (Ve) else none
theorem zjb:∀ g c,GCk g=some c→zf Tryz.prog g c:=okIf U8 (okIf zf6 (okIf YQ (zx)))
theorem Wq:zf Tryz.prog 37 W7:=by
 refine zi (fn:=Tryz.f37) (c:=Tryz.f37.body.getD .skip) rfl rfl rfl fun x hx O w0 Q hq=> ?_
 replace hq:=hq _ rfl
 obtain⟨h1,h2⟩:=hx
 refine zc.run hmix zjb [] 400 (T:=.ex (fun(x_1:Ex)=>eqL [AV.agg [AV.int .u8 x.kind,AV.str x.rat,AV.str x.name,AV.int .i64 x.date,AV.sl x.sub.length 5 (Ex.exG x.sub)]] [AV.agg [AV.int .u8 x_1.kind,AV.str x_1.rat,AV.str x_1.name,AV.int .i64 x_1.date,AV.sl x_1.sub.length 5 (Ex.exG x_1.sub)]]∧Ex.size x_1<4611686018427387904) fun n=>.all (fun(r:Nat)=>r=Ex.size n) fun n=>.ex (fun(x_1:Ex×Nat)=>decide ((500:Int)<n)=false→eqL [AV.agg [AV.int .u8 x.kind,AV.str x.rat,AV.str x.name,AV.int .i64 x.date,AV.sl x.sub.length 5 (Ex.exG x.sub)],AV.int .i64 60] [AV.agg [AV.int .u8 x_1.1.kind,AV.str x_1.1.rat,AV.str x_1.1.name,AV.int .i64 x_1.1.date,AV.sl x_1.1.sub.length 5 (Ex.exG x_1.1.sub)],AV.int .i64 x_1.2]∧Ex.size x_1.1<4611686018427387904∧x_1.2<1099511627776) fun n_1=>.all (fun(x:Nat)=>decide ((500:Int)<n)=false→x=min n_1.1.depth (n_1.2+1)) fun n_2=>.ite (bif decide ((500:Int)<n) then true else decide ((60:Int)<n_2)) (.leaf (.ret [.int .i64 4] [.box [.int .u8 x.kind,.str x.rat,.str x.name,.int .i64 x.date,.sl x.sub.length 5 (Ex.exG x.sub)]])) (.ex (fun(x_1:Ex)=>eqL [AV.agg [AV.int .u8 x.kind,AV.str x.rat,AV.str x.name,AV.int .i64 x.date,AV.sl x.sub.length 5 (Ex.exG x.sub)]] [AV.agg [AV.int .u8 x_1.kind,AV.str x_1.rat,AV.str x_1.name,AV.int .i64 x_1.date,AV.sl x_1.sub.length 5 (Ex.exG x_1.sub)]]∧Ex.size x_1<1152921504606846976∧Ex.zu x_1<1099511627776) fun n=>.all (fun(r:Int)=>r=Ex.zJ n) fun n=>.ite (decide (n=0)) (.leaf (.ret [.int .i64 8] [.box [.int .u8 x.kind,.str x.rat,.str x.name,.int .i64 x.date,.sl x.sub.length 5 (Ex.exG x.sub)]])) (.leaf (.ret [.int .i64 0] [.box [.int .u8 x.kind,.str x.rat,.str x.name,.int .i64 x.date,.sl x.sub.length 5 (Ex.exG x.sub)]])))) (by kernel_rfl) ?_
 simp only [Tree.holds,zd,inR,lo,hi,Int.toNat_natCast]
 refine⟨x,⟨Zq rfl rfl rfl rfl rfl (zb _ _ _),by omega⟩,⟨_,rfl⟩,?_⟩
 rintro _ rfl
 refine⟨(x,60),fun _=>⟨⟨⟨⟨rfl,rfl⟩,rfl,rfl,⟨rfl,rfl⟩,⟨rfl,rfl,zb _ _ _⟩,trivial⟩,⟨rfl,rfl⟩,trivial⟩,by show x.size<_; omega,by show 60<1099511627776; omega⟩,⟨_,fun _=>rfl⟩,?_⟩
 intro c hc
 have em:=zai (x:=x) (n:=c) fun h=>by have:=hc h; simp only at this; omega
 refine⟨fun h=> ?_,fun h=>⟨x,⟨eqX x,by omega,by omega⟩,⟨_,rfl⟩,?_⟩⟩
 ·rw [em.1 h] at hq
  exact RetR.scal hq rfl (by simp [resV])
 ·have e:=em.2 h
  rintro _ rfl
  refine⟨fun g=> ?_,fun g=> ?_⟩
  ·rw [e,if_pos (of_decide_eq_true g)] at hq
   exact RetR.scal hq rfl (by simp [resV])
  ·rw [e,if_neg (of_decide_eq_false g)] at hq
   exact RetR.scal hq rfl (by simp [resV])
noncomputable def GNu:Nat→Option Ctr:=fun f=>if f=37 then some (W7) else if f=80 then some (Ve) else none
theorem zce:∀ g c,GNu g=some c→zf Tryz.prog g c:=okIf Wq (okIf YQ (zx))
theorem zjy:zf Tryz.prog 114 (UA 1):=by
 refine zi (fn:=Tryz.f114) (c:=Tryz.f114.body.getD .skip) rfl rfl rfl fun x hx O w0 Q hq=> ?_
 replace hq:=hq _ rfl
 obtain⟨h1,h2⟩:=hx
 refine zc.run hmix zce [] 400 (T:=.ex (fun(x_1:Ex)=>eqL [AV.agg [AV.int .u8 x.kind,AV.str x.rat,AV.str x.name,AV.int .i64 x.date,AV.sl x.sub.length 5 (Ex.exG x.sub)]] [AV.agg [AV.int .u8 x_1.kind,AV.str x_1.rat,AV.str x_1.name,AV.int .i64 x_1.date,AV.sl x_1.sub.length 5 (Ex.exG x_1.sub)]]∧Ex.size x_1<1099511627776∧Ex.zu x_1<1099511627776) fun n=>.all (fun(r:Int)=>r=Ex.errX n) fun n=>.ex (fun(x_1:Ex)=>decide (n=0)=true→eqL [AV.agg [AV.int .u8 x.kind,AV.str x.rat,AV.str x.name,AV.int .i64 x.date,AV.sl x.sub.length 5 (Ex.exG x.sub)]] [AV.agg [AV.int .u8 x_1.kind,AV.str x_1.rat,AV.str x_1.name,AV.int .i64 x_1.date,AV.sl x_1.sub.length 5 (Ex.exG x_1.sub)]]∧Ex.size x_1<1152921504606846976∧Ex.zu x_1<1099511627776) fun n_1=>.all (fun(x:Int)=>decide (n=0)=true→x=Ex.zJ n_1) fun n_2=>.leaf (.ret [.bool (bif decide (n=0) then decide (n_2=1) else false)] [.box [.int .u8 x.kind,.str x.rat,.str x.name,.int .i64 x.date,.sl x.sub.length 5 (Ex.exG x.sub)]])) (by kernel_rfl) ?_
 simp only [Tree.holds,zd,inR,lo,hi,Int.toNat_natCast]
 refine⟨x,⟨eqX x,by omega,by omega⟩,⟨_,rfl⟩,?_⟩
 rintro _ rfl
 refine⟨x,fun _=>⟨eqX x,by omega,by omega⟩,⟨_,fun _=>rfl⟩,?_⟩
 intro c hc
 refine RetR.scal hq rfl ?_
 cases h:decide (x.errX=0) with
 | false=>rfl
 | true=>rw [hc h]; rfl
theorem ze0:zf Tryz.prog 115 (UA 2):=by
 refine zi (fn:=Tryz.f115) (c:=Tryz.f115.body.getD .skip) rfl rfl rfl fun x hx O w0 Q hq=> ?_
 replace hq:=hq _ rfl
 obtain⟨h1,h2⟩:=hx
 refine zc.run hmix zce [] 400 (T:=.ex (fun(x_1:Ex)=>eqL [AV.agg [AV.int .u8 x.kind,AV.str x.rat,AV.str x.name,AV.int .i64 x.date,AV.sl x.sub.length 5 (Ex.exG x.sub)]] [AV.agg [AV.int .u8 x_1.kind,AV.str x_1.rat,AV.str x_1.name,AV.int .i64 x_1.date,AV.sl x_1.sub.length 5 (Ex.exG x_1.sub)]]∧Ex.size x_1<1099511627776∧Ex.zu x_1<1099511627776) fun n=>.all (fun(r:Int)=>r=Ex.errX n) fun n=>.ex (fun(x_1:Ex)=>decide (n=0)=true→eqL [AV.agg [AV.int .u8 x.kind,AV.str x.rat,AV.str x.name,AV.int .i64 x.date,AV.sl x.sub.length 5 (Ex.exG x.sub)]] [AV.agg [AV.int .u8 x_1.kind,AV.str x_1.rat,AV.str x_1.name,AV.int .i64 x_1.date,AV.sl x_1.sub.length 5 (Ex.exG x_1.sub)]]∧Ex.size x_1<1152921504606846976∧Ex.zu x_1<1099511627776) fun n_1=>.all (fun(x:Int)=>decide (n=0)=true→x=Ex.zJ n_1) fun n_2=>.leaf (.ret [.bool (bif decide (n=0) then decide (n_2=2) else false)] [.box [.int .u8 x.kind,.str x.rat,.str x.name,.int .i64 x.date,.sl x.sub.length 5 (Ex.exG x.sub)]])) (by kernel_rfl) ?_
 simp only [Tree.holds,zd,inR,lo,hi,Int.toNat_natCast]
 refine⟨x,⟨eqX x,by omega,by omega⟩,⟨_,rfl⟩,?_⟩
 rintro _ rfl
 refine⟨x,fun _=>⟨eqX x,by omega,by omega⟩,⟨_,fun _=>rfl⟩,?_⟩
 intro c hc
 refine RetR.scal hq rfl ?_
 cases h:decide (x.errX=0) with
 | false=>rfl
 | true=>rw [hc h]; rfl
noncomputable def K76:List Go.Sx.Item:=[.code (Tryz.f76.body.getD .skip)]
def Yd(n:Nat):Ctr:=ctrP true (fun p:Ex×Ex=>[p.1.exA,p.2.exA]) (fun p=>p.1.size<n∧p.1.size<2^60) (fun p r=>(r=true↔p.1=p.2)) (fun _ (r:Bool)=>(.bool r,[]))
def eqfC(n:Nat):Ctr:=ctrP true (fun p:List Ex×List Ex=>[Ex.exS p.1,Ex.exS p.2,.fn 31 [] []]) (fun p=>Ex.zr p.1<n∧Ex.zr p.1<2^60) (fun p r=>(r=true↔p.1=p.2)) (fun _ (r:Bool)=>(.bool r,[]))
theorem Un(p:Prop):∃ b:Bool,b=true↔p:=by
 by_cases h:p
 ·exact⟨true,by simp [h]⟩
 ·exact⟨false,by simp [h]⟩
def SEq(s t:List Ex)(i:Nat):KV:=[(1,Ex.exS t),(2,.fn 31 [] []),(15,Ex.exS s),(16,.int .i64 (s.length:Int)),(17,.int .i64 (i:Int))]
theorem zjc(n:Nat)(ih:zf Tryz.prog 31 (Yd n)):zf Tryz.prog 76 (eqfC n):=by
 refine zi (fn:=Tryz.f76) (c:=Tryz.f76.body.getD .skip) rfl rfl rfl fun p hp O w0 Q hq=> ?_
 obtain⟨s,t⟩:=p
 obtain⟨h1,h2⟩:=hp
 simp only at h1 h2 hq
 have hlen:=Ex.qt s
 refine zc.run hmix (wL ih) [1,2,15,16,17] 400 (T:=.ite (!decide ((↑s.length:Int)=t.length)) (.leaf (.ret [.bool false] [])) (.leaf (.loop (Prod.fst (lps K76 0)) (Prod.snd (lps K76 0)) [(1,.sl t.length 5 (Ex.exG t)),(2,.fn 31 [] []),(15,.sl s.length 5 (Ex.exG s)),(16,.int .i64 s.length),(17,.int .i64 0)] []))) (by kernel_rfl) ?_
 simp only [Tree.holds,zd,inR,lo,hi,Int.toNat_natCast]
 refine⟨fun h=> ?_,fun h=> ?_⟩
 ·refine RetR.scal (hq false ⟨fun h=>(by cases h),fun he=> ?_⟩) rfl (by simp [resV])
  subst he
  simp at h
 ·have hl:s.length=t.length:=by
   by_cases e1:s.length=t.length
   ·exact e1
   ·rw [decide_eq_false (show ¬ ((s.length:Nat):Int)=t.length by omega)] at h
    cases h
  refine zc.loop (ι:={i:Nat // i≤s.length∧∀ j,j<i→s.getD j Ex.nil=t.getD j Ex.nil}) (fun i=>SEq s t i.1) (fun _=>[]) (fun i=>s.length - i.1) ⟨0,Nat.zero_le _,fun j hj=>by omega⟩ 0 ?_ ?_ (by kernel_rfl)
  ·exact⟨by simp [SEq,Ex.exS,zb],by simp,by kernel_rfl,Nat.zero_le _⟩
  ·rintro⟨i,hil,hib⟩
   refine zc.run hmix (wL ih) [1,2,15,16,17] 400 (T:=.ite (decide ((↑i:Int)<s.length)) (.side ((0:Int)≤i∧(↑i:Int)<s.length) (.side ((0:Int)≤i∧(↑i:Int)<t.length) (.ex (fun(x:Ex×Ex)=>eqL [AV.agg [AV.int .u8 (Ex.kind (s.getD (↑i:Int).toNat Ex.nil)),AV.str (Ex.rat (s.getD (↑i:Int).toNat Ex.nil)),AV.str (Ex.name (s.getD (↑i:Int).toNat Ex.nil)),AV.int .i64 (Ex.date (s.getD (↑i:Int).toNat Ex.nil)),AV.sl (List.length (Ex.sub (s.getD (↑i:Int).toNat Ex.nil))) 5 (Ex.deep (s.getD (↑i:Int).toNat Ex.nil))],AV.agg [AV.int .u8 (Ex.kind (t.getD (↑i:Int).toNat Ex.nil)),AV.str (Ex.rat (t.getD (↑i:Int).toNat Ex.nil)),AV.str (Ex.name (t.getD (↑i:Int).toNat Ex.nil)),AV.int .i64 (Ex.date (t.getD (↑i:Int).toNat Ex.nil)),AV.sl (List.length (Ex.sub (t.getD (↑i:Int).toNat Ex.nil))) 5 (Ex.deep (t.getD (↑i:Int).toNat Ex.nil))]] [AV.agg [AV.int .u8 x.1.kind,AV.str x.1.rat,AV.str x.1.name,AV.int .i64 x.1.date,AV.sl x.1.sub.length 5 (Ex.exG x.1.sub)],AV.agg [AV.int .u8 x.2.kind,AV.str x.2.rat,AV.str x.2.name,AV.int .i64 x.2.date,AV.sl x.2.sub.length 5 (Ex.exG x.2.sub)]]∧Ex.size x.1<n∧Ex.size x.1<1152921504606846976) fun n=>.all (fun(r:Bool)=>r=true↔n.1=n.2) fun n=>.ite (!n) (.leaf (.ret [.bool false] [.box [.int .u8 (Ex.kind (s.getD (↑i:Int).toNat Ex.nil)),.str (Ex.rat (s.getD (↑i:Int).toNat Ex.nil)),.str (Ex.name (s.getD (↑i:Int).toNat Ex.nil)),.int .i64 (Ex.date (s.getD (↑i:Int).toNat Ex.nil)),.sl (List.length (Ex.sub (s.getD (↑i:Int).toNat Ex.nil))) 5 (Ex.deep (s.getD (↑i:Int).toNat Ex.nil))],.box [.int .u8 (Ex.kind (t.getD (↑i:Int).toNat Ex.nil)),.str (Ex.rat (t.getD (↑i:Int).toNat Ex.nil)),.str (Ex.name (t.getD (↑i:Int).toNat Ex.nil)),.int .i64 (Ex.date (t.getD (↑i:Int).toNat Ex.nil)),.sl (List.length (Ex.sub (t.getD (↑i:Int).toNat Ex.nil))) 5 (Ex.deep (t.getD (↑i:Int).toNat Ex.nil))]])) (.side (inR .i64 ((↑i:Int)+(1:Int))) (.leaf (.back 0 [(1,.sl t.length 5 (Ex.exG t)),(2,.fn 31 [] []),(15,.sl s.length 5 (Ex.exG s)),(16,.int .i64 s.length),(17,.int .i64 ((↑i:Int)+(1:Int)))] [.box [.int .u8 (Ex.kind (s.getD (↑i:Int).toNat Ex.nil)),.str (Ex.rat (s.getD (↑i:Int).toNat Ex.nil)),.str (Ex.name (s.getD (↑i:Int).toNat Ex.nil)),.int .i64 (Ex.date (s.getD (↑i:Int).toNat Ex.nil)),.sl (List.length (Ex.sub (s.getD (↑i:Int).toNat Ex.nil))) 5 (Ex.deep (s.getD (↑i:Int).toNat Ex.nil))],.box [.int .u8 (Ex.kind (t.getD (↑i:Int).toNat Ex.nil)),.str (Ex.rat (t.getD (↑i:Int).toNat Ex.nil)),.str (Ex.name (t.getD (↑i:Int).toNat Ex.nil)),.int .i64 (Ex.date (t.getD (↑i:Int).toNat Ex.nil)),.sl (List.length (Ex.sub (t.getD (↑i:Int).toNat Ex.nil))) 5 (Ex.deep (t.getD (↑i:Int).toNat Ex.nil))]])))))) (.leaf (.ret [.bool true] []))) (by kernel_rfl) ?_
   simp only [Tree.holds,zd,inR,lo,hi,Int.toNat_natCast]
   refine⟨fun hlt=> ?_,fun hge=> ?_⟩
   ·have hlt:i<s.length:=by have:=of_decide_eq_true hlt; omega
    have hg:=Ex.wv hlt
    refine⟨by omega,fun _=>⟨by omega,fun _=>⟨(s.getD i Ex.nil,t.getD i Ex.nil),⟨⟨⟨⟨rfl,rfl⟩,rfl,rfl,⟨rfl,rfl⟩,⟨rfl,rfl,Ex.qX _⟩,trivial⟩,⟨⟨rfl,rfl⟩,rfl,rfl,⟨rfl,rfl⟩,⟨rfl,rfl,Ex.qX _⟩,trivial⟩,trivial⟩,by show(s.getD i Ex.nil).size<n; omega,by show(s.getD i Ex.nil).size<_; omega⟩,Un _,?_⟩⟩⟩
    intro e he
    simp only at he
    refine⟨fun g=> ?_,fun g=>⟨by omega,fun _=> ?_⟩⟩
    ·refine RetR.scal (hq false ⟨fun h=>(by cases h),fun h3=> ?_⟩) rfl (by simp [resV])
     have:e=true:=he.2 (by rw [h3])
     rw [this] at g; cases g
    ·rw [if_pos trivial]
     have g:e=true:=by simpa using g
     refine⟨⟨i+1,hlt,fun j hj=> ?_⟩,by show s.length - (i+1)<s.length - i; omega,by simp [SEq,Ex.exS,zb],by simp,by kernel_rfl,Nat.zero_le _⟩
     rcases Nat.lt_or_ge j i with h1 | h1
     ·exact hib j h1
     ·have:j=i:=by omega
      rw [this]; exact he.1 g
   ·have hge:i=s.length:=by have:=of_decide_eq_false hge; omega
    subst hge
    exact RetR.scal (hq true ⟨fun _=>Ex.Wt hl hib,fun _=>rfl⟩) rfl (by simp [resV])
theorem Ye(n:Nat)(ih:zf Tryz.prog 31 (Yd n)):zf Tryz.prog 31 (Yd (n+1)):=by
 refine zi (fn:=Tryz.f31) (c:=Tryz.f31.body.getD .skip) rfl rfl rfl fun p hp O w0 Q hq=> ?_
 obtain⟨x,y⟩:=p
 obtain⟨h1,h2⟩:=hp
 simp only at h1 h2 hq
 rw [Ex.size_eq] at h1 h2
 refine zc.run hmix (wL (zjc n ih)) [] 400 (T:=.ex (fun(x_1:List Ex×List Ex)=>(bif bif bif decide (Ex.kind x=Ex.kind y) then decide (Ex.rat x=Ex.rat y) else false then decide (Ex.name x=Ex.name y) else false then decide (Ex.date x=Ex.date y) else false)=true→eqL [AV.sl x.sub.length 5 (Ex.exG x.sub),AV.sl y.sub.length 5 (Ex.exG y.sub),AV.fn 31 [] []] [AV.sl x_1.1.length 5 (Ex.exG x_1.1),AV.sl x_1.2.length 5 (Ex.exG x_1.2),AV.fn 31 [] []]∧Ex.zr x_1.1<n∧Ex.zr x_1.1<1152921504606846976) fun n=>.all (fun(x_1:Bool)=>(bif bif bif decide (Ex.kind x=Ex.kind y) then decide (Ex.rat x=Ex.rat y) else false then decide (Ex.name x=Ex.name y) else false then decide (Ex.date x=Ex.date y) else false)=true→(x_1=true↔n.1=n.2)) fun n=>.leaf (.ret [.bool (bif bif bif bif decide (Ex.kind x=Ex.kind y) then decide (Ex.rat x=Ex.rat y) else false then decide (Ex.name x=Ex.name y) else false then decide (Ex.date x=Ex.date y) else false then n else false)] [.box [.int .u8 x.kind,.str x.rat,.str x.name,.int .i64 x.date,.sl x.sub.length 5 (Ex.exG x.sub)],.box [.int .u8 y.kind,.str y.rat,.str y.name,.int .i64 y.date,.sl y.sub.length 5 (Ex.exG y.sub)]])) (by kernel_rfl) ?_
 simp only [Tree.holds,zd,inR,lo,hi,Int.toNat_natCast]
 refine⟨(x.sub,y.sub),fun _=>⟨⟨⟨rfl,rfl,zb _ _ _⟩,⟨rfl,rfl,zb _ _ _⟩,by simp,trivial⟩,by show Ex.zr x.sub<n; omega,by show Ex.zr x.sub<_; omega⟩,(Un _).imp fun _ h _=>h,?_⟩
 intro e he
 refine RetR.scal (hq (bif (bif bif bif decide (x.kind=y.kind) then decide (x.rat=y.rat) else false then decide (x.name=y.name) else false then decide (x.date=y.date) else false) then e else false) ?_) rfl (by simp [resV])
 rw [Ex.Vx]
 by_cases g1:x.kind=y.kind
 ·by_cases g2:x.rat=y.rat
  ·by_cases g3:x.name=y.name
   ·by_cases g4:x.date=y.date
    ·have:=he (by simp [g1,g2,g3,g4])
     simp [g1,g2,g3,g4]
     exact this
    ·simp [g4]
   ·simp [g3]
  ·simp [g2]
 ·simp [g1]
def QH:Ctr:=ctrP true (fun p:Ex×Ex=>[p.1.exA,p.2.exA]) (fun p=>p.1.size<2^60) (fun p r=>(r=true↔p.1=p.2)) (fun _ (r:Bool)=>(.bool r,[]))
theorem V7:zf Tryz.prog 31 QH:=ku (fun p=>p.1.size) Ye
end Go.Proofs.Tryz
end
section
namespace Go.Sx
variable [Stat]
section
variable {own own' O:Nat→Prop} {w w':World} {σ σ':List SE} {P:Program} {fn:Func} {Xp:List PanicEntry→Prop}
def upA0(d k:Nat):AV→AV→Prop
 | .nils,.osl i _ off n=>(d≤i∧i<d+k)∧off=0∧n=0
 | a,b=>a=b
def upL0(d k:Nat):List AV→List AV→Prop
 | [],[]=>True
 | a::l,b::m=>upA0 d k a b∧upL0 d k l m
 | _,_=>False
def upA1(d k:Nat):AV→AV→Prop
 | .agg l,.agg m=>upL0 d k l m
 | a,b=>upA0 d k a b
def upL1(d k:Nat):List AV→List AV→Prop
 | [],[]=>True
 | a::l,b::m=>upA1 d k a b∧upL1 d k l m
 | _,_=>False
def upA2(d k:Nat):AV→AV→Prop
 | .tup l,.tup m=>upL1 d k l m
 | a,b=>upA1 d k a b
def jM(k:Nat):List SE:=List.replicate k ⟨none,0⟩
theorem yM.mono{g:Nat}{vals:Array Value}{R R':Value→World→Prop}(hR:∀ v w',R v w'→R' v w')(h:yM P g vals w R):yM P g vals w R':=by
 rcases h with ⟨h1,h2⟩ | ⟨v,w',h1,h2⟩
 ·exact .inl ⟨h1,h2.mono fun e w' ⟨v,he,hv⟩=>⟨v,he,hR v w' hv⟩⟩
 ·exact .inr ⟨v,w',h1,hR v w' h2⟩
theorem qQ{k i:Nat}{e:SE}(h:(σ++jM k)[i]?=some e):(i<σ.length∧σ[i]?=some e)∨(σ.length≤i∧e=⟨none,0⟩):=by
 rw [List.getElem?_append] at h
 split at h
 ·rename_i hi; exact .inl ⟨hi,h⟩
 ·rename_i hi
  right
  refine⟨by omega,?_⟩
  simp only [jM,List.getElem?_replicate] at h
  split at h
  ·cases h; rfl
  ·cases h
theorem QL{k b:Nat}(h:Mine (σ++jM k) b):Mine σ b:=by
 obtain⟨e,he,ad,h1,h2⟩:=h
 rcases List.mem_append.1 he with he | he
 ·exact⟨e,he,ad,h1,h2⟩
 ·have:=List.eq_of_mem_replicate he
  subst this
  cases h1
theorem uO{k b:Nat}(h:Own O (σ++jM k) b):Own O σ b:=by
 rcases h with h | h
 ·exact .inl h
 ·exact .inr (QL h)
theorem vM(K:List Nat)(w:World)(σ:List SE)(k:Nat):Hold K w σ w (σ++jM k):=fun i e he _=>by
 have hi:=(List.getElem?_eq_some_iff.1 he).1
 exact⟨by rw [List.getElem?_append_left hi]; exact he,fun ad _ cs el h=>⟨cs,el,h,rfl⟩⟩
theorem Ws{k:Nat}(hx:Ext own w own' w){a b:AV}{v:Value}(hu:upA0 σ.length k a b)(ha:Rep own w a σ v):Rep own' w b (σ++jM k) v:=by
 unfold upA0 at hu
 split at hu
 ·obtain⟨⟨h1,h2⟩,rfl,rfl⟩:=hu
  rename_i i sz _ _
  simp only [Rep] at ha ⊢
  refine⟨⟨none,0⟩,?_,by simp,none,0,ha,Nat.le_refl _,.inl rfl⟩
  rw [List.getElem?_append_right h1,jM,List.getElem?_replicate,if_pos (by omega)]
 ·subst hu
  exact zZ (K:=[]) hx (vM [] w σ k) _ _ (ji _) ha
theorem ZD{k:Nat}(hx:Ext own w own' w):∀ {l m:List AV} {vs:List Value},upL0 σ.length k l m→RepL own w l σ vs→RepL own' w m (σ++jM k) vs
 | [],[],vs,_,h=>by simpa [RepL] using h
 | a::l,b::m,vs,hl,h=>by
  simp only [RepL] at h ⊢
  obtain⟨v,r,hv,h1,h2⟩:=h
  exact⟨v,r,hv,Ws hx hl.1 h1,ZD hx hl.2 h2⟩
 | [],_::_,_,hl,_=>hl.elim
 | _::_,[],_,hl,_=>hl.elim
theorem Jq{k:Nat}(hx:Ext own w own' w){a b:AV}{v:Value}(hu:upA1 σ.length k a b)(ha:Rep own w a σ v):Rep own' w b (σ++jM k) v:=by
 unfold upA1 at hu
 split at hu
 ·simp only [Rep] at ha ⊢
  obtain⟨vs,hv,hr⟩:=ha
  exact⟨vs,hv,ZD hx hu hr⟩
 ·exact Ws hx hu ha
theorem xR{k:Nat}(hx:Ext own w own' w):∀ {l m:List AV} {vs:List Value},upL1 σ.length k l m→RepL own w l σ vs→RepL own' w m (σ++jM k) vs
 | [],[],vs,_,h=>by simpa [RepL] using h
 | a::l,b::m,vs,hl,h=>by
  simp only [RepL] at h ⊢
  obtain⟨v,r,hv,h1,h2⟩:=h
  exact⟨v,r,hv,Jq hx hl.1 h1,xR hx hl.2 h2⟩
 | [],_::_,_,hl,_=>hl.elim
 | _::_,[],_,hl,_=>hl.elim
theorem We{k:Nat}(hx:Ext own w own' w){a b:AV}{v:Value}(hu:upA2 σ.length k a b)(ha:Rep own w a σ v):Rep own' w b (σ++jM k) v:=by
 unfold upA2 at hu
 split at hu
 ·simp only [Rep] at ha ⊢
  obtain⟨vs,hv,hr⟩:=ha
  exact⟨vs,hv,xR hx hu hr⟩
 ·exact Jq hx hu ha
def kT(szs:List (Nat×(Nat→Nat→AV))):Heap:=szs.map fun s=>.arr 0 s.1 s.2
theorem zh2(hx:Ext own w own' w){hs:Heap}(hh:HRep own w σ hs)(szs:List (Nat×(Nat→Nat→AV))):HRep own' w (σ++jM szs.length) (hs++kT szs):=by
 have hl:=hh.len
 refine⟨by simp [jM,kT,hl],fun i j e f a b he hf ha hb hij=> ?_,fun i e a he ha=> ?_,fun i e b he hb=> ?_⟩
 ·rcases qQ he with ⟨_,he⟩ | ⟨_,rfl⟩
  ·rcases qQ hf with ⟨_,hf⟩ | ⟨_,rfl⟩
   ·exact hh.inj i j e f a b he hf ha hb hij
   ·cases hb
  ·cases ha
 ·rcases qQ he with ⟨_,he⟩ | ⟨_,rfl⟩
  ·exact hh.lt i e a he ha
  ·cases ha
 ·rcases qQ he with ⟨hi,he⟩ | ⟨hi,rfl⟩
  ·rw [List.getElem?_append_left (by omega)] at hb
   have:=qT (K:=[]) hx (vM [] w σ szs.length) (hh.blk i e b he hb) (fun _ _=>rfl)
   rwa [jc] at this
  ·rw [List.getElem?_append_right (by omega)] at hb
   simp only [kT,List.getElem?_map] at hb
   cases hz:szs[i - hs.length]? with
   | none=>simp [hz] at hb
   | some s=>
    simp only [hz,Option.map_some,Option.some.injEq] at hb
    subst hb
    exact⟨rfl,.inl rfl⟩
def upQ(Q:AV×Heap→Prop)(p:AV×Heap):Prop:=Q p∨∃ (r:AV) (szs:List (Nat×(Nat→Nat→AV))),upA2 p.2.length szs.length p.1 r∧Q (r,p.2++kT szs)
theorem jg.up{g:Nat}{c:Ctr}{args:List AV}{hc:Heap}{Q:AV×Heap→Prop}(h:jg P g c args hc (upQ Q)):jg P g c args hc Q:=by
 intro O w σ vals hg hh hr
 refine yM.mono ?_ (h O w σ vals hg hh hr)
 rintro v w' ⟨r,hs,σ',hq,h1,h2,h3,h4,h5,h6⟩
 rcases hq with hq | ⟨r',szs,hu,hq⟩
 ·exact⟨r,hs,σ',hq,h1,h2,h3,h4,h5,h6⟩
 ·have hx:Ext (fun b=>Own O σ' b∨(c.fresh=true∧b<w.heap.size)) w' (fun b=>Own O (σ'++jM szs.length) b∨(c.fresh=true∧b<w.heap.size)) w':=
   ⟨rfl,rfl,rfl,Nat.le_refl _,fun _ _ _=>rfl,fun b hb=>.inl (hb.imp uO id)⟩
  have hl:hs.length=σ'.length:=h2.len.symm
  refine⟨r',hs++kT szs,σ'++jM szs.length,hq,We hx (by rw [← hl]; exact hu) h1,zh2 hx h2 szs,⟨h3.old,fun i e ad he had=> ?_,h3.stat.own fun b hb=>uO hb⟩,by simp; omega,h5.XG (vM [] w' σ' _),?_⟩
  ·rcases qQ he with ⟨_,he⟩ | ⟨_,rfl⟩
   ·exact h3.dis i e ad he had
   ·cases had
  ·exact⟨h6.os,h6.tape,h6.output,h6.size,h6.keep,fun b hb=>h6.grow b (QL hb)⟩
theorem Z7{X R:Type}{fresh:Bool}{inp:X→List AV}{pre:X→Prop}{post:X→R→Prop}{out:X→R→AV×Heap}{g:Nat}{c:Code}(hf:P.funcs[g]?=some fn)(hb:fn.body=some c) (hn:(fn.name == "runtime.NumGoroutine")=false)
  (H:∀ x,pre x→∀ (O:Nat→Prop) (w0:World) (Q:AV×Heap→Prop),(∀ r,post x r→Q (out x r)) →
   zc P fn O 0 w0 [] (fun _ _ _=>False) (RetR (ctrP fresh inp pre post out) 0 (upQ Q)) [.code c] (entry fn (inp x))):zf P g (ctrP fresh inp pre post out):=by
 intro args hc Q hq _
 simp only [ctrP] at hq
 split at hq
 ·obtain⟨x,⟨h1,h4⟩,h5,h6⟩:=hq
  refine jg.le h1 (jg.up (fn_k hf hb hn (fun h=>rfl) fun O w0 σ0 hl=> ?_))
  have h0:σ0=[]:=List.length_eq_zero_iff.1 (by simpa using hl)
  subst h0
  exact H x h4 O w0 Q h6
 ·exact hq.elim
def upKV(d k:Nat):KV→KV→Prop
 | [],[]=>True
 | (i,a)::l,(j,b)::m=>i=j∧upA2 d k a b∧upKV d k l m
 | _,_=>False
def upB(d k:Nat):Blk→Blk→Prop
 | .box l,.box m=>upL1 d k l m
 | a,b=>a=b
def upH(d k:Nat):Heap→Heap→Prop
 | [],[]=>True
 | b::l,c::m=>upB d k b c∧upH d k l m
 | _,_=>False
theorem Jv{d k:Nat} : ∀ {l m:KV} (t:Nat),upKV d k l m→upA2 d k (look l t) (look m t)
 | [],[],t,_=>by simp [look,upA2,upA1,upA0]
 | (i,a)::l,(j,b)::m,t,h=>by
  obtain⟨rfl,h1,h2⟩:=h
  simp only [look]
  split
  ·exact h1
  ·exact Jv t h2
 | [],_::_,_,h=>h.elim
 | _::_,[],_,h=>h.elim
theorem YC{d k:Nat} : ∀ {l m:Heap},upH d k l m→l.length=m.length
 | [],[],_=>rfl
 | _::l,_::m,h=>by simp [YC h.2]
 | [],_::_,h=>h.elim
 | _::_,[],h=>h.elim
theorem YW{d k:Nat} : ∀ {l m:Heap} {i:Nat} {b':Blk},upH d k l m→m[i]?=some b'→∃ b,l[i]?=some b∧upB d k b b'
 | b::l,c::m,0,b',h,h1=>by simp at h1; subst h1; exact⟨b,rfl,h.1⟩
 | b::l,c::m,i+1,b',h,h1=>by simpa using YW h.2 (by simpa using h1)
 | [],[],_,_,_,h1=>by simp at h1
 | [],_::_,_,_,h,_=>h.elim
 | _::_,[],_,_,h,_=>h.elim
theorem zb2{k:Nat}(hx:Ext own w own' w){e:SE}{b b':Blk}(hu:upB σ.length k b b')(hb:BRep own w σ e b):BRep own' w (σ++jM k) e b':=by
 unfold upB at hu
 split at hu
 ·simp only [BRep] at hb ⊢
  obtain⟨ad,vs,el,h1,h2,h3,h4⟩:=hb
  exact⟨ad,vs,el,h1,h2,h3,xR hx hu h4⟩
 ·subst hu
  have:=qT (K:=[]) hx (vM [] w σ k) hb (fun _ _=>rfl)
  rwa [jc] at this
variable {pin:Nat} {w0:World} {σ0:List SE} {a:Act}
theorem up_mod{kv kv2:KV}{h h2:Heap}{n:Nat}(hm:Mod O pin w0 σ0 w σ (mk n kv h) a){szs:List (Nat×(Nat→Nat→AV))}(hkv:upKV h.length szs.length kv kv2)(hh2:upH h.length szs.length h h2)(hno:(pk n kv).all q6=true)(hno2:(pk n kv2).all q6=true):Mod O pin w0 σ0 w (σ++jM szs.length) (mk n kv2 (h2++kT szs)) a:=by
 have hx:Ext (Own O σ) w (Own O (σ++jM szs.length)) w:=⟨rfl,rfl,rfl,Nat.le_refl _,fun _ _ _=>rfl,fun b hb=>.inl (uO hb)⟩
 have hl:h.length=σ.length:=hm.hp.len.symm
 rw [hl] at hkv hh2
 have hl2:=YC hh2
 refine⟨⟨hm.good.old,fun i e ad he had=> ?_,hm.good.stat.ext hx⟩,?_,by simp [hm.size,mk,pk],fun u=> ?_,hm.df.ext hx,hm.since.trans ⟨hx,fun _ _ _=>rfl,wP.of (vM [] w σ _) (by simp)⟩,hm.lim⟩
 ·rcases qQ he with ⟨_,he⟩ | ⟨_,rfl⟩
  ·exact hm.good.dis i e ad he had
  ·cases had
 ·have hh:=hm.hp
  refine⟨by simp [mk,jM,kT,← hl2,hl],fun i j e f x y he hf ha hb hij=> ?_,fun i e x he ha=> ?_,fun i e b he hb=> ?_⟩
  ·rcases qQ he with ⟨_,he⟩ | ⟨_,rfl⟩
   ·rcases qQ hf with ⟨_,hf⟩ | ⟨_,rfl⟩
    ·exact hh.inj i j e f x y he hf ha hb hij
    ·cases hb
   ·cases ha
  ·rcases qQ he with ⟨_,he⟩ | ⟨_,rfl⟩
   ·exact hh.lt i e x he ha
   ·cases ha
  ·simp only [mk] at hb
   rcases qQ he with ⟨hi,he⟩ | ⟨hi,rfl⟩
   ·rw [List.getElem?_append_left (by omega)] at hb
    obtain⟨b0,h1,h3⟩:=YW hh2 hb
    exact zb2 hx h3 (hh.blk i e b0 he h1)
   ·rw [List.getElem?_append_right (by omega)] at hb
    simp only [kT,List.getElem?_map] at hb
    cases hz:szs[i - h2.length]? with
    | none=>simp [hz] at hb
    | some s=>
     simp only [hz,Option.map_some,Option.some.injEq] at hb
     subst hb
     exact⟨rfl,.inl rfl⟩
 ·have hu:=hm.tm u
  have key:∀ (kv:KV) (h:Heap),(pk n kv).all q6=true→q6 ((mk n kv h).tmps.getD u .undef)=true:=by
   intro kv h hno
   by_cases hlt:u<(mk n kv h).tmps.length
   ·simp only [List.getD,List.getElem?_eq_getElem hlt,Option.getD_some]
    exact List.all_eq_true.1 hno _ (List.getElem_mem hlt)
   ·simp only [List.getD]
    rw [List.getElem?_eq_none (by omega)]; rfl
  have n1:=key kv h hno
  have n2:=key kv2 (h2++kT szs) hno2
  have hr:Rep (Own O σ) w ((mk n kv h).tmps.getD u .undef) σ (a.tmps.getD u undef):=by
   generalize (mk n kv h).tmps.getD u .undef=x at hu n1
   cases x with
   | opt _ _ _=>simp [q6] at n1
   | _=>simpa only [TRep] using hu
  have hup:upA2 σ.length szs.length ((mk n kv h).tmps.getD u .undef) ((mk n kv2 (h2++kT szs)).tmps.getD u .undef):=by
   by_cases hlt:u<n
   ·simp only [mk]
    rw [j0 hlt,j0 hlt]
    exact Jv u hkv
   ·simp [mk,pk,List.getD,hlt,upA2,upA1,upA0]
  have:=We hx hup hr
  generalize (mk n kv2 (h2++kT szs)).tmps.getD u .undef=y at this n2
  cases y with
  | opt _ _ _=>simp [q6] at n2
  | _=>simpa only [TRep] using this
theorem zc.up{M:Option Nat}{Hs:Nat→KV→Heap→Prop}{R:List AV→Heap→Prop}{k:List Item}{kv:KV}{h:Heap}(szs:List (Nat×(Nat→Nat→AV)))(kv2:KV)(h2:Heap)(hkv:upKV h.length szs.length kv kv2)(hh2:upH h.length szs.length h h2)(hno:(pk fn.ntmps kv).all q6=true)(hno2:(pk fn.ntmps kv2).all q6=true)
  (H:zG Xp M P fn O pin w0 σ0 Hs R k (mk fn.ntmps kv2 (h2++kT szs))):zG Xp M P fn O pin w0 σ0 Hs R k (mk fn.ntmps kv h):=
 fun w σ a hm=>H w _ a (up_mod hm hkv hh2 hno hno2)
theorem RetR.outs{ctr:Ctr}{Q:AV×Heap→Prop}{rs:List AV}{h:Heap}{r:AV}{hs:Heap}(L:List Nat)(hnd:jU L=true)(hlt:(L.all fun i=>decide (i<h.length))=true)(hq:Q (r,hs))(hn:ctr.fresh=true→new2 h L (resV rs)∧∀ i∈L,newB (h.getD i .dead))
  (he:eqA2 (exp2 h L (resV rs)) r) (hb:eqH (expH h L) hs) (hl:hs.length=L.length):RetR ctr 0 Q rs h:=
 ⟨L,hnd,fun i hi=>by have:=List.all_eq_true.1 hlt i hi; simpa using this,by simp,hn,r,hs,qo he,.inl hb,hl,hq⟩
theorem RetR.keep{ctr:Ctr}{m:Nat}{Q:AV×Heap→Prop}{rs:List AV}{h:Heap}{r:AV}{hs:Heap}(L:List Nat)(hnd:jU L=true)(hlt:(L.all fun i=>decide (i<h.length))=true)(hj:∀ j,j<m→L[j]?=some j)(hf:ctr.fresh=false)(hq:Q (r,hs))
  (he:eqA2 (exp2 h L (resV rs)) r) (hb:eqH (expH h L) hs) (hl:hs.length=L.length):RetR ctr m Q rs h:=
 ⟨L,hnd,fun i hi=>by have:=List.all_eq_true.1 hlt i hi; simpa using this,hj,(fun hh=>absurd hh (by rw [hf]; decide)),r,hs,qo he,.inl hb,hl,hq⟩
end
end Go.Sx
end
section
set_option maxRecDepth 100000
open Go Go.Sx Go.Proofs Go.Nov
namespace Go.Proofs.Tryz
attribute [local simp] eqKV eqA eqA0 eqH eqB eqL eqL0
def exD(x:Ex):AV:=.agg [.int .u8 x.kind,.str x.rat,.str x.name,.int .i64 x.date,.sl x.sub.length 5 x.deep]
theorem ze5{s:List Ex}{i:Nat} : eqG (i+1) 5 (appG i (Ex.exG s) (zg (zh 5 [.int .u8 (s.getD i Ex.nil).kind,.str (s.getD i Ex.nil).rat,.str (s.getD i Ex.nil).name,.int .i64 (s.getD i Ex.nil).date,.sl (s.getD i Ex.nil).sub.length 5 (s.getD i Ex.nil).deep]) 0)) (Ex.exG s):=by
 intro j o hj ho
 simp only [appG,zg,zh]
 by_cases h:j<i
 ·rw [if_pos h]
 ·have:j=i:=by omega
  subst this
  rw [if_neg h]
  have e:j - j=0:=by omega
  match o,ho with
  | 0,_=>simp [e,Ex.exG,Ex.cell]
  | 1,_=>simp [e,Ex.exG,Ex.cell]
  | 2,_=>simp [e,Ex.exG,Ex.cell]
  | 3,_=>simp [e,Ex.exG,Ex.cell]
  | 4,_=>simp [e,Ex.exG,Ex.cell]
noncomputable def K60:List Go.Sx.Item:=[.code (Tryz.f60.body.getD .skip)]
def YH:Ctr:=ctrP true (fun x:Ex=>[x.exA]) (fun _=>True) (fun x r=>r=qW x) (fun _ (r:Bool)=>(.bool r,[]))
theorem WQ:zf Tryz.prog 108 YH:=by
 refine zi (fn:=Tryz.f108) (c:=Tryz.f108.body.getD .skip) rfl rfl rfl fun x hx O w0 Q hq=> ?_
 replace hq:=hq _ rfl
 obtain⟨k,r,m,d,s⟩:=x
 refine zc.run hmix zD [] 400 (T:=.leaf (.ret [.bool (bif bif bif bif decide (Ex.kind (Ex.mk k r m d s)=(0:Int)) then decide (Ex.rat (Ex.mk k r m d s)=#[].toList) else false then decide (Ex.name (Ex.mk k r m d s)=#[].toList) else false then decide (Ex.date (Ex.mk k r m d s)=(0:Int)) else false then decide ((↑(List.length (Ex.sub (Ex.mk k r m d s))):Int)=0) else false)] [.box [.int .u8 (Ex.kind (Ex.mk k r m d s)),.str (Ex.rat (Ex.mk k r m d s)),.str (Ex.name (Ex.mk k r m d s)),.int .i64 (Ex.date (Ex.mk k r m d s)),.sl (List.length (Ex.sub (Ex.mk k r m d s))) 5 (Ex.exG (Ex.sub (Ex.mk k r m d s)))]])) (by kernel_rfl) ?_
 simp only [Tree.holds,zd]
 refine RetR.scal hq rfl ?_
 refine congrArg AV.bool ?_
 rw [Bool.eq_iff_iff]
 simp [qW,Ex.kind,Ex.rat,Ex.name,Ex.date,Ex.sub,and_assoc]
def Yq:Ctr:=ctrT false false (fun c:Con=>[c.conA]) (fun _=>[]) (fun _=>True) (fun _ (_:Unit)=>True) (fun c _=>(.fn 110 [] [.ptr 0 0],[.box (Con.Wv c.kind c.src c.dst c.name c.x c.date c.days c.sub)]))
theorem V0:zf Tryz.prog 62 Yq:=by
 refine qI (fn:=Tryz.f62) (c:=Tryz.f62.body.getD .skip) rfl rfl rfl (fun h=>by cases h) fun c hp O w0 σ0 Q hl hq=> ?_
 have h0:σ0=[]:=List.length_eq_zero_iff.1 (by simpa using hl)
 subst h0
 refine zc.run hmix zD [0] 400 (T:=.leaf (.ret [.fn 110 [] [.ptr 0 0]] [.box (Con.zj c)])) (by kernel_rfl) ?_
 simp only [Tree.holds,zd]
 refine RetR.out1 0 (by simp) (hq () trivial) (fun h=>by cases h) (by simp [resV,exp2,exp1,exp0,z5,ren0,eqA2]) ?_
 simp only [Con.Wv,expB,exp1,List.map_cons,List.map_nil,exp0,Ex.exS,Con.dayS,Con.conS]
 exact⟨⟨rfl,rfl⟩,rfl,rfl,rfl,⟨rfl,rfl⟩,rfl,rfl,⟨rfl,rfl⟩,⟨rfl,rfl,zb _ _ _⟩,⟨rfl,rfl⟩,⟨rfl,rfl,zb _ _ _⟩,⟨rfl,rfl,zb _ _ _⟩,trivial⟩
noncomputable def GZ1:Nat→Option Ctr:=fun f=>if f=108 then some (YH) else if f=78 then some (Ub) else if f=62 then some (Yq) else none
theorem Y5:∀ g c,GZ1 g=some c→zf Tryz.prog g c:=okIf WQ (okIf U8 (okIf V0 (zx)))
def zcf:Ctr:=ctrP true (fun c:Con=>[c.conA]) (fun c=>c.big<2^40∧c.nodes≤1000000) (fun c r=>r=c.size) (fun _ (r:Nat)=>(.int .i64 (r:Int),[]))
theorem vu(c:Con):eqA c.conA c.conA:=by
 simp only [Con.conA,Ex.exS,Con.dayS,Con.conS,eqA]
 exact⟨⟨rfl,rfl⟩,rfl,rfl,rfl,⟨rfl,rfl⟩,rfl,rfl,⟨rfl,rfl⟩,⟨rfl,rfl,zb _ _ _⟩,⟨rfl,rfl⟩,⟨rfl,rfl,zb _ _ _⟩,⟨rfl,rfl,zb _ _ _⟩,trivial⟩
theorem JU{own:Nat→Prop}{w:World}{σ:List SE} : ∀ {l:List AV} {vs:List Value},l.all V9=true→RepL own w l σ vs→RepL own w l [] vs
 | [],vs,_,h=>h
 | a::l,vs,hf,h=>by
  simp only [List.all_cons,Bool.and_eq_true] at hf
  simp only [RepL] at h ⊢
  obtain⟨v,r,rfl,h1,h2⟩:=h
  exact⟨v,r,rfl,Xa hf.1 h1,JU hf.2 h2⟩
theorem zjx{O:Nat→Prop}{pin:Nat}{w0 w:World}{σ0 σ:List SE}{st:St}{a:Act}(hm:Mod O pin w0 σ0 w σ st a):∀ b,Go.Sx.Own O σ b→b<w.heap.size:=by
 rintro b (hO | ⟨e,he,ad,h1,rfl⟩)
 ·exact hm.good.old b hO
 ·obtain⟨j,hj⟩:=List.getElem?_of_mem he
  exact hm.hp.lt j e ad hj h1
theorem zF(c:Con):eqL c.zj c.zj:=by
 simp only [Con.zj,Con.Wv,Ex.exS,Con.dayS,Con.conS]
 exact⟨⟨rfl,rfl⟩,rfl,rfl,rfl,⟨rfl,rfl⟩,rfl,rfl,⟨rfl,rfl⟩,⟨rfl,rfl,zb _ _ _⟩,⟨rfl,rfl⟩,⟨rfl,rfl,zb _ _ _⟩,⟨rfl,rfl,zb _ _ _⟩,trivial⟩
theorem j1(x:Ex):eqA x.exA x.exA:=by
 simp only [Ex.exA,Ex.exS,eqA]
 exact⟨⟨rfl,rfl⟩,rfl,rfl,⟨rfl,rfl⟩,⟨rfl,rfl,zb _ _ _⟩,trivial⟩
theorem ZU{O:Nat→Prop}{pin:Nat}{w0 w:World}{σ0 σ:List SE}{st:St}{a:Act}(hm:Mod O pin w0 σ0 w σ st a){i:Nat}{c:Con}(hb:st.heap[i]?=some (.box c.zj))(hn:c.nodes≤1000000){vb:List Value}(hv:RepL (Go.Sx.Own O σ) w [.ptr i 0] σ vb) :
  ∃ ev:Nat→Value,SeqStopsK Fence.wide 0 Tryz.prog 110 vb.toArray (fun x=> #[ev x]) (qZ (Go.Sx.Own O σ)) (fun xs=>xs=List.range c.all.length) (fun pre=>pre <+: List.range c.all.length) c.all.length w∧∀ i,Rep (Go.Sx.Own O σ) w (c.all.getD i c).conA [] (ev i):=by
 simp only [RepL,Rep] at hv
 obtain⟨v,r,rfl,⟨e,ad,he,had,rfl⟩,rfl⟩:=hv
 obtain⟨ad',vs,el,g1,g2,g3,g4⟩:=hm.hp.blk i e _ he hb
 rw [had] at g1; cases g1
 have hr:Rep (Go.Sx.Own O σ) w c.conA [] (.agg vs.toArray):=by
  simp only [Con.conA]
  rw [Rep]
  exact⟨vs,rfl,JU rfl g4⟩
 have:=VB g3 hr hn (zjx hm)
 rw [g2]
 exact this
def HCs(c:Con)(m:Nat):Heap:=[.box c.zj,.box [.int .i64 (m:Int)],.box c.zj]
theorem zfc:zf Tryz.prog 60 zcf:=by
 refine zi (fn:=Tryz.f60) (c:=Tryz.f60.body.getD .skip) rfl rfl rfl fun c hc O w0 Q hq=> ?_
 obtain⟨h1,h2⟩:=hc
 replace hq:=hq _ rfl
 refine zc.run hmix Y5 [2,3,6,7] 400 (T:=.ex (fun(x:Con)=>eqL [(Con.conA c)] [(Con.conA x)]∧eqH [] []∧0=0∧True) fun n=>.all (fun(x:Unit)=>True) fun n_1=>.leaf (.range (Prod.fst (rfs K60 0)) (Prod.snd (rfs K60 0)) [(2,.int .i64 0),(3,.ptr 1 0),(6,.fn 110 [] [.ptr 2 0]),(7,.undef)] [.box (Con.zj c),.box [.int .i64 0],.box (Con.zj n)])) (by kernel_rfl) ?_
 simp only [Tree.holds,zd]
 refine⟨c,⟨⟨vu c,trivial⟩,trivial,trivial,trivial⟩,⟨(),trivial⟩,fun _ _=> ?_⟩
 refine zc.zdh (tg:=6) (tp:=7) (td:=4) (t:=31) (n:=12) (zs:=[.int .u8 0,.str [],.str [],.str [],.int .u8 0,.str [],.str [],.int .i64 0,.nils,.int .i64 0,.nils,.nils]) (cap:=[.ptr 2 0]) (gf:=110) (by kernel_rfl) (by kernel_rfl) (by kernel_rfl) rfl (enters_of Tryz.func110 (by kernel_rfl) rfl) (fun i:Nat=>(c.all.getD i c).conA) (fun i=>(c.all.getD i c).zj) (fun i=>⟨rfl,rfl,rfl,rfl⟩) (fun pre=>HCs c (pre.map fun i=>(c.all.getD i c).wt).sum) (fun _=>[]) (fun _=>False) (fun xs=>xs=List.range c.all.length) (fun pre=>pre <+: List.range c.all.length) c.all.length 3
  (by kernel_rfl) (by decide +kernel) (by decide +kernel) (by decide +kernel) (by decide) ⟨by simp,⟨zF c,⟨⟨rfl,rfl⟩,trivial⟩,zF c,trivial⟩,by kernel_rfl,Nat.zero_le _⟩ (by kernel_rfl) (Nat.zero_le _) (fun pre=>rfl) (fun pre=>by simp [HCs,alive]) (fun pre b hb=>by cases hb) ?_ ?_ ?_ (fun _ _ h=>h.elim)
 ·intro w σ a hm vb hvb
  exact ZU hm (i:=2) rfl h2 hvb
 ·intro l pre i hlen W σ1
  have hwt:(c.all.getD i c).big≤c.big:=by
   by_cases hi:i<c.all.length
   ·exact Con.Zz c _ (by simp [List.getD,hi])
   ·simp [List.getD,hi]
  have hm:(pre.map fun i=>(c.all.getD i c).wt).sum≤pre.length*2^40:=by
   have hall:∀ j,(c.all.getD j c).wt≤2^40:=fun j=>by
    have h1':=Con.ZP (c.all.getD j c).x
    have h2':(c.all.getD j c).big≤c.big:=by
     by_cases hi:j<c.all.length
     ·exact Con.Zz c _ (by simp [List.getD,hi])
     ·simp [List.getD,hi]
    rw [Con.uo] at h2'
    have:(c.all.getD j c).wt=1+kn (c.all.getD j c).x:=rfl
    omega
   clear hlen
   induction pre with
   | nil=>simp
   | cons j pre ih=>
    have:=hall j
    simp only [List.map_cons,List.sum_cons,List.length_cons]
    omega
  rw [List.map_append,List.sum_append]
  simp only [List.map_cons,List.map_nil,List.sum_cons,List.sum_nil,Nat.add_zero]
  rw [Con.Uv] at hlen
  have hml:(pre.map fun i=>(c.all.getD i c).wt).sum≤1000000*2^40:=Nat.le_trans hm (Nat.mul_le_mul_right _ (by omega))
  generalize (pre.map fun i=>(c.all.getD i c).wt).sum=m at hml
  generalize c.all.getD i c=e at hwt
  rw [Con.uo e] at hwt
  refine zc.run hmix Y5 [3,6,7] 400 (T:=.side (inR .i64 ((↑m:Int)+(1:Int))) (.ex (fun(x:Ex)=>eqL [(Ex.exA e.x)] [x.exA]∧True) fun n=>.all (fun(r:Bool)=>r=qW n) fun n=>.ite (!n) (.ex (fun(x:Ex)=>eqL [(Ex.exA e.x)] [x.exA]∧Ex.size x<4611686018427387904) fun n=>.all (fun(r:Nat)=>r=Ex.size n) fun n=>.side (inR .i64 ((↑m:Int)+(1:Int)+n)) (.leaf (.back 0 [(3,.ptr 1 0),(6,.fn 110 [] [.ptr 2 0]),(7,(Con.conA e))] [.box (Con.zj c),.box [.int .i64 ((↑m:Int)+(1:Int)+n)],.box (Con.zj c)]))) (.leaf (.back 0 [(3,.ptr 1 0),(6,.fn 110 [] [.ptr 2 0]),(7,(Con.conA e))] [.box (Con.zj c),.box [.int .i64 ((↑m:Int)+(1:Int))],.box (Con.zj c)])))) (by kernel_rfl) ?_
  simp only [Tree.holds,zd,inR,lo,hi,Int.toNat_natCast]
  have hsx:e.wt=1+kn e.x:=rfl
  refine⟨by omega,fun _=>⟨e.x,⟨⟨j1 e.x,trivial⟩,trivial⟩,⟨_,rfl⟩,?_⟩⟩
  rintro _ rfl
  refine⟨fun hb=>⟨e.x,⟨⟨j1 e.x,trivial⟩,by show e.x.size<_; omega⟩,⟨_,rfl⟩,?_⟩,fun hb=> ?_⟩
  ·rintro _ rfl
   refine⟨by omega,fun _=>⟨trivial,⟨zF c,⟨⟨rfl,?_⟩,trivial⟩,zF c,trivial⟩,by kernel_rfl,Nat.le_refl _⟩⟩
   have:kn e.x=e.x.size:=by unfold kn; rw [show qW e.x=false by simpa using hb]; rfl
   omega
  ·refine⟨trivial,⟨zF c,⟨⟨rfl,?_⟩,trivial⟩,zF c,trivial⟩,by kernel_rfl,Nat.le_refl _⟩
   have:kn e.x=0:=by unfold kn; rw [show qW e.x=true by simpa using hb]; rfl
   omega
 ·intro xs hxs
  subst hxs
  have hsum:((List.range c.all.length).map fun i=>(c.all.getD i c).wt).sum=c.size:=by
   rw [Con.K6]
   congr 1
   apply List.ext_getElem (by simp)
   intro i h1 h2
   simp at h1
   simp [List.getD,h1]
  rw [hsum]
  generalize c.size=m at hq
  refine zc.run hmix Y5 [2,3,6,7] 400 (T:=.leaf (.ret [.int .i64 m] [.box (Con.zj c),.box [.int .i64 m],.box (Con.zj c)])) (by kernel_rfl) ?_
  simp only [Tree.holds,zd]
  exact RetR.scal hq rfl rfl
noncomputable def K109:List Go.Sx.Item:=[.code (Tryz.f109.body.getD .skip)]
noncomputable def K61:List Go.Sx.Item:=[.code (Tryz.f61.body.getD .skip)]
def Ue(n:Nat):Ctr:=ctrP true (fun x:Ex=>[x.exA]) (fun x=>x.size<n∧x.size<2^62) (fun x r=>r=x.depth) (fun _ (r:Nat)=>(.int .i64 (r:Int),[]))
def SEd(s:List Ex)(c i:Nat):KV:=[(3,.int .i64 (c:Int)),(7,Ex.exS s),(8,.int .i64 (s.length:Int)),(9,.int .i64 (i:Int))]
theorem VR(n:Nat)(ih:zf Tryz.prog 109 (Ue n)):zf Tryz.prog 109 (Ue (n+1)):=by
 refine zi (fn:=Tryz.f109) (c:=Tryz.f109.body.getD .skip) rfl rfl rfl fun x hp O w0 Q hq=> ?_
 obtain⟨hxn,hxs⟩:=hp
 replace hq:=hq _ rfl
 have hds:=Ex.vZ x
 rw [Ex.kq] at hq hds
 rw [Ex.size_eq] at hxn hxs hds
 obtain⟨k,r,m,d,s⟩:=x
 simp only [Ex.sub] at hxn hxs hq hds
 have hlen:=Ex.qt s
 refine zc.run hmix (wL ih) [3,7,8,9] 400 (T:=.leaf (.loop (Prod.fst (lps K109 0)) (Prod.snd (lps K109 0)) [(3,.int .i64 0),(7,.sl s.length 5 (Ex.exG s)),(8,.int .i64 s.length),(9,.int .i64 0)] [.box [.int .u8 k,.str r,.str m,.int .i64 d,.sl s.length 5 (Ex.exG s)]])) (by kernel_rfl) ?_
 simp only [Tree.holds,zd,inR,lo,hi,Int.toNat_natCast]
 refine zc.loop (ι:={i:Nat // i≤s.length}) (fun i=>SEd s (Ex.zy (s.take i.1)) i.1) (fun _=>[]) (fun i=>s.length - i.1) ⟨0,Nat.zero_le _⟩ 0 ?_ ?_ (by kernel_rfl)
 ·exact⟨by simp [SEd,Ex.zy,Ex.exS,zb],by simp,by kernel_rfl,Nat.zero_le _⟩
 ·rintro⟨i,hil⟩
  have hcb:Ex.zy (s.take i)≤Ex.zy s:=Ex.QI s i
  obtain⟨c,hc⟩:∃ c,Ex.zy (s.take i)=c:=⟨_,rfl⟩
  simp only [hc]
  refine zc.run hmix (wL ih) [3,7,8,9] 400 (T:=.ite (decide ((↑i:Int)<s.length)) (.side ((0:Int)≤i∧(↑i:Int)<s.length) (.ex (fun(x:Ex)=>eqL [(exD (s.getD (↑i:Int).toNat Ex.nil))] [x.exA]∧Ex.size x<n∧Ex.size x<4611686018427387904) fun n=>.all (fun(r:Nat)=>r=Ex.depth n) fun n=>.side (inR .i64 ((↑i:Int)+(1:Int))) (.leaf (.back 0 [(3,.int .i64 (max (↑c:Int) (↑n:Int))),(7,.sl s.length 5 (Ex.exG s)),(8,.int .i64 s.length),(9,.int .i64 ((↑i:Int)+(1:Int)))] [.box (Ex.cellsD (s.getD (↑i:Int).toNat Ex.nil))])))) (.side (inR .i64 ((↑c:Int)+(1:Int))) (.leaf (.ret [.int .i64 ((↑c:Int)+(1:Int))] [])))) (by kernel_rfl) ?_
  simp only [Tree.holds,zd,inR,lo,hi,Int.toNat_natCast]
  refine⟨fun hlt=> ?_,fun hge=> ?_⟩
  ·have hlt:i<s.length:=by have:=of_decide_eq_true hlt; omega
   have hg:=Ex.wv hlt
   have ht:=Ex.wE s i hlt
   refine⟨by omega,fun _=>⟨s.getD i Ex.nil,⟨⟨⟨⟨rfl,rfl⟩,rfl,rfl,⟨rfl,rfl⟩,⟨rfl,rfl,Ex.qX _⟩,trivial⟩,trivial⟩,by omega,by omega⟩,⟨_,rfl⟩,?_⟩⟩
   rintro _ rfl
   refine⟨by omega,fun _=> ?_⟩
   rw [if_pos trivial]
   refine⟨⟨i+1,hlt⟩,by show s.length - (i+1)<s.length - i; omega,?_,by simp,by kernel_rfl,Nat.zero_le _⟩
   simp [SEd,ht,hc,Ex.exS,zb]; omega
  ·have hge:i=s.length:=by have:=of_decide_eq_false hge; omega
   subst hge
   rw [List.take_length] at hc
   refine⟨by omega,fun _=> ?_⟩
   exact RetR.scal hq rfl (by simp [resV]; omega)
def Jp:Ctr:=ctrP true (fun x:Ex=>[x.exA]) (fun x=>x.size<2^62) (fun x r=>r=x.depth) (fun _ (r:Nat)=>(.int .i64 (r:Int),[]))
theorem zb0:zf Tryz.prog 109 Jp:=ku Ex.size VR
theorem WB(e:Con):eqA (.agg [.int .u8 e.kind,.str e.src,.str e.dst,.str e.name,.int .u8 e.x.kind,.str e.x.rat,.str e.x.name,.int .i64 e.x.date,.sl e.x.sub.length 5 (Ex.exG e.x.sub),.int .i64 e.date,.sl e.days.length 1 (Con.dayG e.days),.sl e.sub.length 12 e.deep]) e.conA:=by
 simp only [Con.conA,Ex.exS,Con.dayS,Con.conS,eqA]
 exact⟨⟨rfl,rfl⟩,rfl,rfl,rfl,⟨rfl,rfl⟩,rfl,rfl,⟨rfl,rfl⟩,⟨rfl,rfl,zb _ _ _⟩,⟨rfl,rfl⟩,⟨rfl,rfl,zb _ _ _⟩,⟨rfl,rfl,Con.qX e⟩,trivial⟩
theorem Z5(x:Ex):kf x≤x.size:=Nat.le_trans (Con.JM x) (Con.ZP x)
def SCd(c:Con)(d i:Nat):KV:=[(3,.int .i64 (d:Int)),(14,Con.conS c.sub),(15,.int .i64 (c.sub.length:Int)),(16,.int .i64 (i:Int))]
def yT(n:Nat):Ctr:=ctrP true (fun c:Con=>[c.conA]) (fun c=>c.nodes<n∧c.big<2^40) (fun c r=>r=c.depth) (fun _ (r:Nat)=>(.int .i64 (r:Int),[]))
noncomputable def GDb:Nat→Option Ctr:=fun f=>if f=108 then some (YH) else if f=109 then some (Jp) else none
theorem zk6:∀ g c,GDb g=some c→zf Tryz.prog g c:=okIf WQ (okIf zb0 (zx))
noncomputable def GDc(n:Nat):Nat→Option Ctr:=fun f=>if f=61 then some (yT n) else GDb f
theorem zcm{n:Nat}(h:zf Tryz.prog 61 (yT n)):∀ f c,GDc n f=some c→zf Tryz.prog f c:=by
 intro f c hf
 simp only [GDc] at hf
 split at hf
 ·rename_i hg; subst hg; cases hf; exact h
 ·exact zk6 f c hf
theorem K7(n:Nat)(ih:zf Tryz.prog 61 (yT n)):zf Tryz.prog 61 (yT (n+1)):=by
 refine zi (fn:=Tryz.f61) (c:=Tryz.f61.body.getD .skip) rfl rfl rfl fun c hp O w0 Q hq=> ?_
 obtain⟨hcn,hcb⟩:=hp
 replace hq:=hq _ rfl
 rw [Con.kq] at hq
 refine zc.run hmix (zcm ih) [3,14,15,16] 400 (T:=.ex (fun(x:Ex)=>eqL [(Ex.exA c.x)] [x.exA]∧True) fun n=>.all (fun(r:Bool)=>r=qW n) fun n=>.ite (!n) (.ex (fun(x:Ex)=>eqL [(Ex.exA c.x)] [x.exA]∧Ex.size x<4611686018427387904) fun n=>.all (fun(r:Nat)=>r=Ex.depth n) fun n=>.leaf (.loop (Prod.fst (lps K61 0)) (Prod.snd (lps K61 0)) [(3,.int .i64 n),(14,.sl c.sub.length 12 (Con.conG c.sub)),(15,.int .i64 (↑c.sub.length:Int)),(16,.int .i64 0)] [.box (Con.zj c)])) (.leaf (.loop (Prod.fst (lps K61 0)) (Prod.snd (lps K61 0)) [(3,.int .i64 0),(14,.sl c.sub.length 12 (Con.conG c.sub)),(15,.int .i64 (↑c.sub.length:Int)),(16,.int .i64 0)] [.box (Con.zj c)]))) (by kernel_rfl) ?_
 simp only [Tree.holds,zd,inR,lo,hi,Int.toNat_natCast]
 have hb:=hcb
 rw [Con.uo] at hb
 rw [Con.yk] at hcn
 have hxd:=Z5 c.x
 have hsd:=Con.Xz c.sub
 have hl:=Con.ZV c.sub
 have loop:∀ (d0:Nat) (h:Heap),d0=kf c.x→(∀ S,LeK 0 Tryz.f61.ntmps S h S []→True)→h=[.box c.zj]→zc Tryz.prog Tryz.f61 O 0 w0 [] (fun _ _ _=>False) (RetR (yT (n+1)) 0 Q) (.code (.loop (lps K61 0).1)::(lps K61 0).2) (mk Tryz.f61.ntmps [(3,.int .i64 (d0:Int)),(14,.sl c.sub.length 12 (Con.conG c.sub)),(15,.int .i64 (c.sub.length:Int)),(16,.int .i64 0)] h):=by
  rintro d0 h rfl _ rfl
  refine zc.loop (ι:={i:Nat // i≤c.sub.length}) (fun i=>SCd c (max (kf c.x) (Con.zy (c.sub.take i.1))) i.1) (fun _=>[]) (fun i=>c.sub.length - i.1) ⟨0,Nat.zero_le _⟩ 0 ?_ ?_ (by kernel_rfl)
  ·exact⟨by simp [SCd,Con.zy,Con.conS,zb],by simp,by kernel_rfl,Nat.zero_le _⟩
  ·rintro⟨i,hil⟩
   have hdb:Con.zy (c.sub.take i)≤Con.zy c.sub:=Con.JX c.sub i
   obtain⟨d,hd⟩:∃ d,max (kf c.x) (Con.zy (c.sub.take i))=d:=⟨_,rfl⟩
   simp only [hd]
   refine zc.run hmix (zcm ih) [3,14,15,16] 400 (T:=.ite (decide ((↑i:Int)<(↑c.sub.length:Int))) (.side ((0:Int)≤i∧(↑i:Int)<(↑c.sub.length:Int)) (.ex (fun(x:Con)=>eqL [(Con.conD (List.getD c.sub (↑i:Int).toNat Con.nil))] [(Con.conA x)]∧Con.nodes x<n∧Con.big x<1099511627776) fun n=>.all (fun(r:Nat)=>r=Con.depth n) fun n=>.side (inR .i64 ((↑i:Int)+(1:Int))) (.leaf (.back 0 [(3,.int .i64 (max (↑d:Int) (↑n:Int))),(14,.sl c.sub.length 12 (Con.conG c.sub)),(15,.int .i64 (↑c.sub.length:Int)),(16,.int .i64 ((↑i:Int)+(1:Int)))] [.box (Con.xo (List.getD c.sub (↑i:Int).toNat Con.nil))])))) (.side (inR .i64 ((↑d:Int)+(1:Int))) (.leaf (.ret [.int .i64 ((↑d:Int)+(1:Int))] [])))) (by kernel_rfl) ?_
   simp only [Tree.holds,zd,inR,lo,hi,Int.toNat_natCast]
   refine⟨fun hlt=> ?_,fun hge=> ?_⟩
   ·have hlt:i<c.sub.length:=by have:=of_decide_eq_true hlt; omega
    have hg:=Con.ye hlt
    have hgb:=Con.Ku hlt
    have ht:=Con.wE c.sub i hlt
    refine⟨by omega,fun _=>⟨c.sub.getD i Con.nil,⟨⟨WB _,trivial⟩,by omega,by omega⟩,⟨_,rfl⟩,?_⟩⟩
    rintro _ rfl
    refine⟨by omega,fun _=> ?_⟩
    rw [if_pos trivial]
    refine⟨⟨i+1,hlt⟩,by show c.sub.length - (i+1)<c.sub.length - i; omega,?_,by simp,by kernel_rfl,Nat.zero_le _⟩
    simp [SCd,ht,Con.conS,zb]; omega
   ·have hge:i=c.sub.length:=by have:=of_decide_eq_false hge; omega
    subst hge
    rw [List.take_length] at hd
    refine⟨by omega,fun _=> ?_⟩
    exact RetR.scal hq rfl (by simp [resV]; omega)
 refine⟨c.x,⟨⟨j1 c.x,trivial⟩,trivial⟩,⟨_,rfl⟩,?_⟩
 rintro _ rfl
 refine⟨fun h=>⟨c.x,⟨⟨j1 c.x,trivial⟩,by show c.x.size<_; omega⟩,⟨_,rfl⟩,?_⟩,fun h=> ?_⟩
 ·rintro _ rfl
  exact loop c.x.depth _ (by unfold kf; rw [show qW c.x=false by simpa using h]; rfl) (fun _ _=>trivial) rfl
 ·exact loop 0 _ (by unfold kf; rw [show qW c.x=true by simpa using h]; rfl) (fun _ _=>trivial) rfl
def JF:Ctr:=ctrP true (fun c:Con=>[c.conA]) (fun c=>c.big<2^40) (fun c r=>r=c.depth) (fun _ (r:Nat)=>(.int .i64 (r:Int),[]))
theorem zay:zf Tryz.prog 61 JF:=ku Con.nodes K7
end Go.Proofs.Tryz
end
section
namespace Go.Sx
variable [Stat]
section
variable {P:Program}
theorem JC(a:AV):eqA0 a a:=by
 cases a<;>simp [eqA0]
 exact fun _ _ _ _=>rfl
theorem uE:∀ l:List AV,eqL0 l l
 | []=>trivial
 | a::l=>⟨JC a,uE l⟩
theorem zed(a:AV):eqA a a:=by
 cases a with
 | agg l=>exact uE l
 | tup l=>exact uE l
 | _=>unfold eqA; exact JC _
theorem ZO:∀ l:List AV,eqL l l
 | []=>trivial
 | a::l=>by
  unfold eqL
  split
  ·rename_i h1 h2; cases h1
  ·rename_i h1 h2; cases h1; cases h2; exact ZO l
  ·rename_i h1 h2; cases h1; cases h2; exact⟨zed _,ZO l⟩
  ·rename_i hx; exact(hx _ _ _ _ rfl rfl).elim
end
end Go.Sx
end
section
namespace Go.Sx
variable [Stat]
section
variable {P:Program} {Γ:Nat→Option Ctr} {fn:Func}
def inlC(P:Program)(Γ:Nat→Option Ctr)(n:Nat)(fn:Func):Ctr where
 fresh:=false
 spec args hc:=match fn.body with
  | some c=>(run P Γ hc.length n [.code c] (k8 fn args hc)).bind fun lf=>match lf with
   | .ret st=>(resX P st fn.results.toList).bind fun rs=>bif decide (hc.length≤st.heap.length) then .leaf (exp2 st.heap (List.range st.heap.length) (resV rs),expH st.heap (List.range st.heap.length)) else .fail
   | _=>.fail
  | none=>.fail
theorem nodup_range':∀ (n s:Nat),jU (List.range' s n)=true
 | 0,_=>rfl
 | n+1,s=>by
  rw [List.range'_succ]
  simp only [jU,Bool.and_eq_true]
  refine⟨?_,nodup_range' n (s+1)⟩
  simp [List.contains_eq_mem,List.mem_range'_1]
theorem za(b:Blk):eqB b b:=by
 cases b with
 | dead=>trivial
 | box l=>exact ZO l
 | arr n sz g=>exact⟨rfl,rfl,fun _ _ _ _=>rfl⟩
 | arrI k n f=>exact⟨rfl,fun _ _ _ _=>rfl⟩
 | arrS n f=>exact⟨rfl,fun _ _ _ _=>rfl⟩
 | map ag sh has get pe=>exact⟨⟨rfl,.inr rfl⟩,rfl,fun _=>rfl,fun _ _=>rfl⟩
theorem zav(h:Heap):eqH h h:=by
 induction h with
 | nil=>trivial
 | cons b l ih=>exact⟨za b,ih⟩
theorem zdu{g n:Nat}(hmix:P.follows .mixedOrders=true)(hΓ:∀ g c,Γ g=some c→zf P g c)(hf:P.funcs[g]?=some fn) (hn:(fn.name == "runtime.NumGoroutine")=false):zf P g (inlC P Γ n fn):=by
 intro args hc Q hq hfr
 simp only [inlC] at hq
 cases hb:fn.body with
 | none=>rw [hb] at hq; exact hq.elim
 | some c=>
  rw [hb] at hq
  simp only [Tree.zo] at hq
  refine wM.plain (zie hf hb hn hfr fun O w0 σ0 hl=>Safe.run hmix (fun g c h=>(hΓ g c h).x) n (Tree.zV (fun lf h=> ?_) hq))
  cases lf with
  | ret st=>
   simp only [Tree.zo] at h
   refine Tree.zV (fun rs h=> ?_) h
   cases hd:decide (hc.length≤st.heap.length) with
   | false=>rw [hd] at h; exact h.elim
   | true=>
    rw [hd] at h
    have h:Q (exp2 st.heap (List.range st.heap.length) (resV rs),expH st.heap (List.range st.heap.length)):=h
    have hd:=of_decide_eq_true hd
    exact⟨List.range st.heap.length,by rw [List.range_eq_range']; exact nodup_range' _ _,fun i hi=>List.mem_range.1 hi,fun j hj=>by rw [List.getElem?_range (by omega)],fun h=>(by cases h),_,_,LeA.refl _,.inl (zav _),by simp [expH],h⟩
  | _=>exact h.elim
end
end Go.Sx
end
section
namespace Go.Nov
open Go.Sx
theorem xS:∀ s:List UInt8,Op.bytesLess s s=false
 | []=>rfl
 | a::s=>by simp [Op.bytesLess,xS s]
theorem xf:∀ {s t u:List UInt8},Op.bytesLess s t=true→Op.bytesLess t u=true→Op.bytesLess s u=true
 | s,[],u,h,_=>by cases s<;>simp [Op.bytesLess] at h
 | [],b::t,[],_,h=>by simp [Op.bytesLess] at h
 | [],b::t,c::u,_,_=>rfl
 | a::s,b::t,[],_,h=>by simp [Op.bytesLess] at h
 | a::s,b::t,c::u,h,k=>by
  simp only [Op.bytesLess,Bool.or_eq_true,Bool.and_eq_true,decide_eq_true_eq,beq_iff_eq] at h k ⊢
  rcases h with h | ⟨rfl,h⟩
  ·rcases k with k | ⟨rfl,k⟩
   ·exact .inl (UInt8.lt_trans h k)
   ·exact .inl h
  ·rcases k with k | ⟨rfl,k⟩
   ·exact .inl k
   ·exact .inr ⟨rfl,xf h k⟩
theorem zfw{s t:List UInt8} : cmpS s t<0↔Op.bytesLess s t=true:=by
 unfold cmpS
 cases Op.bytesLess s t with
 | true=>simp
 | false=>by_cases h:s=t<;>simp [h]
theorem Zt{s t:List UInt8} : cmpS s t=0↔s=t:=by
 unfold cmpS
 cases hb:Op.bytesLess s t with
 | true=>
  simp only [if_true]
  refine⟨fun h=>by omega,fun h=> ?_⟩
  subst h; rw [xS] at hb; cases hb
 | false=>by_cases h:s=t<;>simp [h]
theorem zh6{x y:Int} : cmpI x y=0↔x=y:=by
 unfold cmpI
 split
 ·exact⟨fun h=>by omega,fun h=>by omega⟩
 ·split
  ·exact⟨fun h=>by omega,fun h=>by omega⟩
  ·exact⟨fun _=>by omega,fun _=>rfl⟩
theorem x5{a b:Fx} : cmpF a b=0↔a.name=b.name∧a.date=b.date:=by
 unfold cmpF
 by_cases h:cmpS a.name b.name=0
 ·rw [if_pos h,zh6]; exact⟨fun h2=>⟨Zt.1 h,h2⟩,fun h2=>h2.2⟩
 ·rw [if_neg h]; exact⟨fun h2=>absurd h2 h,fun h2=>absurd (Zt.2 h2.1) h⟩
theorem k0{a b:Fx} : cmpF a b<0↔Op.bytesLess a.name b.name=true∨a.name=b.name∧a.date<b.date:=by
 unfold cmpF
 by_cases h:cmpS a.name b.name=0
 ·rw [if_pos h,WN]
  have h2:=Zt.1 h
  rw [h2,xS]
  simp
 ·rw [if_neg h,zfw]
  exact⟨fun h2=>.inl h2,fun h2=>h2.elim id fun h3=>absurd (Zt.2 h3.1) h⟩
structure OrdK{α:Type}(c:α→α→Int):Prop where
 lt:∀ a b d,c a b<0→c b d<0→c a d<0
 eq:∀ a b d,c a b<0→c b d=0→c a d<0
theorem zeg:OrdK cmpF where
 lt a b d h k:=by
  rw [k0] at *
  rcases h with h | ⟨h1,h2⟩
  ·rcases k with k | ⟨k1,k2⟩
   ·exact .inl (xf h k)
   ·rw [k1] at h; exact .inl h
  ·rcases k with k | ⟨k1,k2⟩
   ·rw [← h1] at k; exact .inl k
   ·exact .inr ⟨h1.trans k1,by omega⟩
 eq a b d h k:=by
  rw [x5] at k
  rw [k0] at *
  rw [k.1,k.2] at h
  exact h
section
variable {α:Type} {c:α→α→Int} {z x:α}
def X4(c:α→α→Int)(x:α):List α→List α
 | []=>[x]
 | o::l=>if c o x<0 then o::X4 c x l else if c o x=0 then x::l else x::o::l
theorem U2(hk:OrdK c):∀ {l:List α},ordB c z l=true→l.Pairwise fun a b=>c a b<0
 | [],_=>.nil
 | [a],_=>by simp
 | a::b::l,h=>by
  have h1:c a b<0:=by
   simp only [ordB,List.all_eq_true,List.mem_range,decide_eq_true_eq] at h
   have:=h 0 (by simp)
   simpa using this
  have h2:ordB c z (b::l)=true:=by
   simp only [ordB,List.all_eq_true,List.mem_range,decide_eq_true_eq] at h ⊢
   intro i hi
   have:=h (i+1) (by simp at hi ⊢; omega)
   simpa using this
  have ih:=U2 hk h2
  refine List.pairwise_cons.2 ⟨fun y hy=> ?_,ih⟩
  rcases List.mem_cons.1 hy with rfl | hy
  ·exact h1
  ·exact hk.lt _ _ _ h1 (List.rel_of_pairwise_cons ih hy)
end
theorem zjt{α:Type}{p:α→Bool}{z:α}{l:List α}(h:∀ j,j<l.length→p (l.getD j z)=true):l.all p=true:=by
 rw [List.all_eq_true]
 intro x hx
 obtain⟨j,hj,rfl⟩:=List.getElem_of_mem hx
 have:=h j hj
 simpa [List.getD,hj] using this
theorem zgp{α:Type}{p:α→Bool}{z:α}{l:List α}{j:Nat}(hj:j<l.length)(h:p (l.getD j z)=false):l.all p=false:=by
 rw [List.all_eq_false]
 exact⟨l[j],List.getElem_mem hj,by simpa [List.getD,hj] using h⟩
theorem uU{f:List Fx}{c:List Ch} : errE f c=0↔¬ (1000<f.length∨1000<c.length)∧f.all okF=true∧c.all okC=true∧ordB cmpF Fx.nil f=true∧ordB cmpC Ch.nil c=true:=by
 unfold errE
 by_cases hb:1000<f.length∨1000<c.length
 ·rw [if_pos hb]; simp [hb]
 ·rw [if_neg hb]
  by_cases h:(f.all okF&&c.all okC&&ordB cmpF Fx.nil f&&ordB cmpC Ch.nil c)=true
  ·rw [if_pos h]
   simp only [Bool.and_eq_true] at h
   exact⟨fun _=>⟨hb,h.1.1.1,h.1.1.2,h.1.2,h.2⟩,fun _=>rfl⟩
  ·rw [if_neg h]
   refine⟨fun h2=>by omega,fun h2=>absurd ?_ h⟩
   simp [h2.2.1,h2.2.2.1,h2.2.2.2.1,h2.2.2.2.2]
def zib(l:List Fx)(a:List UInt8)(d:Int):List UInt8×Bool:=match l.find? fun x=>decide (x.name=a)&&decide (x.date=d) with
 | some x=>(x.value,true)
 | none=>([],false)
def putF(f:List Fx)(c:List Ch)(x:Fx):(List Fx×List Ch)×Int:=
 if errE f c≠0 then(([],[]),errE f c) else if(zQ x.name&&dayB x.date)=false then(([],[]),2) else if errR x.value≠0 then(([],[]),errR x.value)
 else if 1000<(X4 cmpF x f).length then(([],[]),22) else((X4 cmpF x f,c),0)
end Go.Nov
end
section
set_option maxRecDepth 100000
open Go Go.Sx Go.Proofs Go.Nov
namespace Go.Proofs.Tryz
attribute [local simp] eqKV eqA eqA0 eqH eqB eqL eqL0
noncomputable def K117:List Go.Sx.Item:=[.code (Tryz.f117.body.getD .skip)]
def zin:Ctr:=ctrP true (fun l:List Int=>[Con.dayS l]) (fun l=>l.length<2^40) (fun l r=>r=kX l) (fun _ (r:Bool)=>(.bool r,[]))
noncomputable def Xd:Ctr:=inlC Tryz.prog noG 100 Tryz.f116
theorem Wk:zf Tryz.prog 116 Xd:=zdu hmix zD rfl rfl
noncomputable def GDy:Nat→Option Ctr:=fun f=>if f=116 then some (Xd) else none
theorem zdq:∀ g c,GDy g=some c→zf Tryz.prog g c:=okIf Wk (zx)
def UF(l:List Int)(i:Nat):Prop:=∀ j,j<i→dayB (l.getD j 0)=true∧(0<j→l.getD (j - 1) 0<l.getD j 0)
theorem UY{l:List Int}(h1:1≤l.length)(h2:l.length≤100)(h:UF l l.length):kX l=true:=by
 unfold kX
 rw [decide_eq_true h1,decide_eq_true h2,zjt (z:=0) fun j hj=>(h j hj).1]
 simp only [Bool.true_and]
 unfold incB
 refine yz fun j hj=> ?_
 rw [WN]
 exact(h (j+1) hj).2 (by omega)
theorem zdm{l:List Int}{i:Nat}(hi:i<l.length)(h:¬ (dayB (l.getD i 0)=true∧(0<i→l.getD (i - 1) 0<l.getD i 0))):kX l=false:=by
 unfold kX
 by_cases hd:dayB (l.getD i 0)=true
 ·have h:0<i∧¬ l.getD (i - 1) 0<l.getD i 0:=by
   refine⟨?_,?_⟩
   ·rcases Nat.eq_zero_or_pos i with h0 | h0
    ·exact absurd ⟨hd,fun h1=>by omega⟩ h
    ·exact h0
   ·exact fun h1=>h ⟨hd,fun _=>h1⟩
  have:incB l=false:=by
   unfold incB
   refine Z1 (j:=i - 1) (by omega) ?_
   rw [WN,show i - 1+1=i by omega]
   exact h.2
  rw [this]; simp
 ·have:l.all dayB=false:=zgp (z:=0) hi (by simpa using hd)
  rw [this]; simp
theorem XH{l:List Int}{i:Nat}(h:UF l i)(h1:dayB (l.getD i 0)=true∧(0<i→l.getD (i - 1) 0<l.getD i 0)):UF l (i+1):=fun j hj=>by
 rcases Nat.lt_or_ge j i with h2 | h2
 ·exact h j h2
 ·rw [show j=i by omega]; exact h1
theorem Ui{l:List Int}{i:Nat}{b:Bool}(hb:b=dayB (l.getD i 0)):(bif !b then true else bif decide (0<(i:Int)) then decide (l.getD i 0≤l.getD ((i:Int) - 1).toNat 0) else false)=false↔(dayB (l.getD i 0)=true∧(0<i→l.getD (i - 1) 0<l.getD i 0)):=by
 have e:((i:Int) - 1).toNat=i - 1:=by omega
 rw [e,← hb]
 cases b with
 | false=>simp
 | true=>
  by_cases h0:0<i
  ·have h1:0<(i:Int):=by omega
   rw [decide_eq_true h1]
   simp only [Bool.not_true,cond_false,cond_true,decide_eq_false_iff_not,true_and]
   exact⟨fun h _=>by omega,fun h=>by have:=h h0; omega⟩
  ·have h1:¬ 0<(i:Int):=by omega
   rw [decide_eq_false h1]
   simp [h0]
theorem zc2{l:List Int}{i:Nat}{b:Bool}(hb:b=dayB (l.getD i 0)):(bif !b then true else bif decide (0<(i:Int)) then decide (l.getD i 0≤l.getD ((i:Int) - 1).toNat 0) else false)=true→¬ (dayB (l.getD i 0)=true∧(0<i→l.getD (i - 1) 0<l.getD i 0)):=fun h g=>by
 rw [(Ui hb).2 g] at h; cases h
def SDy(l:List Int)(i:Nat):KV:=[(0,Con.dayS l),(13,Con.dayS l),(14,.int .i64 (l.length:Int)),(15,.int .i64 (i:Int)),(24,.undef),(25,.undef),(26,.undef),(27,.undef),(28,.undef),(29,.undef),(30,.undef),(31,.undef),(32,.undef),(33,.undef),(34,.undef)]
theorem zj3(d:Int):(bif decide (0≤d) then decide (d≤99999) else false)=dayB d:=by
 rw [Bool.eq_iff_iff]
 simp [dayB]
theorem zg8:zf Tryz.prog 117 zin:=by
 refine zi (fn:=Tryz.f117) (c:=Tryz.f117.body.getD .skip) rfl rfl rfl fun l hl O w0 Q hq=> ?_
 replace hq:=hq _ rfl
 refine zc.run hmix zdq [0,13,14,15,24,25,26,27,28,29,30,31,32,33,34] 400 (T:=.ite (bif decide ((↑l.length:Int)<1) then true else decide ((100:Int)<l.length)) (.leaf (.ret [.bool false] [])) (.leaf (.loop (Prod.fst (lps K117 0)) (Prod.snd (lps K117 0)) [(0,.sl l.length 1 (Con.dayG l)),(13,.sl l.length 1 (Con.dayG l)),(14,.int .i64 l.length),(15,.int .i64 0),(24,.undef),(25,.undef),(26,.undef),(27,.undef),(28,.undef),(29,.undef),(30,.undef),(31,.undef),(32,.undef),(33,.undef),(34,.undef)] []))) (by kernel_rfl) ?_
 simp only [Tree.holds,zd,inR,lo,hi,Int.toNat_natCast]
 refine⟨fun h=> ?_,fun h=> ?_⟩
 ·have hb:kX l=false:=by
   unfold kX
   by_cases h1:1≤l.length
   ·by_cases h2:l.length≤100
    ·rw [decide_eq_false (by omega),decide_eq_false (by omega)] at h; cases h
    ·rw [decide_eq_false h2]; simp
   ·rw [decide_eq_false h1]; simp
  rw [hb] at hq
  exact RetR.scal hq rfl rfl
 have hlen:1≤l.length∧l.length≤100:=by
  by_cases h1:(l.length:Int)<1
  ·rw [decide_eq_true h1] at h; cases h
  ·rw [decide_eq_false h1] at h
   have:=of_decide_eq_false h
   omega
 clear h
 refine zc.loop (ι:={i:Nat // i≤l.length∧UF l i}) (fun i=>SDy l i.1) (fun _=>[]) (fun i=>l.length - i.1) ⟨0,Nat.zero_le _,fun j hj=>by omega⟩ 0 ?_ ?_ (by kernel_rfl)
 ·exact⟨by simp [SDy,Con.dayS,zb],by simp,by kernel_rfl,Nat.zero_le _⟩
 rintro⟨i,hil,hg⟩
 refine zc.run hmix zdq [0,13,14,15,24,25,26,27,28,29,30,31,32,33,34] 400 (T:=.ite (decide ((↑i:Int)<l.length)) (.side ((0:Int)≤i∧(↑i:Int)<l.length) (.side ((!bif decide ((0:Int)≤List.getD l (↑i:Int).toNat (0:Int)) then decide (l.getD (↑i:Int).toNat (0:Int)≤99999) else false)=false∧decide ((0:Int)<i)=true→inR .i64 ((↑i:Int) - (1:Int))) (.side ((!bif decide ((0:Int)≤List.getD l (↑i:Int).toNat (0:Int)) then decide (l.getD (↑i:Int).toNat (0:Int)≤99999) else false)=false∧decide ((0:Int)<i)=true→(0:Int)≤i - (1:Int)∧(↑i:Int) - (1:Int)<l.length) (.ite (bif !bif decide ((0:Int)≤List.getD l (↑i:Int).toNat (0:Int)) then decide (l.getD (↑i:Int).toNat (0:Int)≤99999) else false then true else bif decide ((0:Int)<i) then decide (l.getD (↑i:Int).toNat (0:Int)≤List.getD l (Int.toNat ((↑i:Int) - (1:Int))) (0:Int)) else false) (.leaf (.ret [.bool false] [])) (.side (inR .i64 ((↑i:Int)+(1:Int))) (.leaf (.back 0 [(0,.sl l.length 1 (Con.dayG l)),(13,.sl l.length 1 (Con.dayG l)),(14,.int .i64 l.length),(15,.int .i64 ((↑i:Int)+(1:Int))),(24,.undef),(25,.undef),(26,.undef),(27,.undef),(28,.undef),(29,.undef),(30,.undef),(31,.undef),(32,.undef),(33,.undef),(34,.undef)] []))))))) (.leaf (.ret [.bool true] []))) (by kernel_rfl) ?_
 simp only [Tree.holds,zd,inR,lo,hi,Int.toNat_natCast]
 refine⟨fun hlt=> ?_,fun hge=> ?_⟩
 ·have hlt:i<l.length:=by have:=of_decide_eq_true hlt; omega
  refine⟨by omega,fun _=>⟨fun h=>(by have:=of_decide_eq_true h.2; omega),fun _=>⟨fun h=>(by have:=of_decide_eq_true h.2; omega),fun _=>⟨fun ht=> ?_,fun ht=>⟨by omega,fun _=> ?_⟩⟩⟩⟩⟩
  ·rw [zdm hlt (zc2 (zj3 _) ht)] at hq
   exact RetR.scal hq rfl rfl
  ·rw [if_pos trivial]
   exact⟨⟨i+1,hlt,XH hg ((Ui (zj3 _)).1 ht)⟩,by show l.length - (i+1)<l.length - i; omega,by simp [SDy,Con.dayS,zb],by simp,by kernel_rfl,Nat.zero_le _⟩
 ·have hge:i=l.length:=by have:=of_decide_eq_false hge; omega
  subst hge
  rw [UY hlen.1 hlen.2 hg] at hq
  exact RetR.scal hq rfl rfl
def bitB(p q:Int):Bool:=decide (((p.toNat &&& q.toNat:Nat):Int)≠0)
def HHas(p:Int):Heap:=[.box [.int .i64 p]]
def hasC:Ctr:=ctrT false false (fun p:Int×Int=>[.int .i64 p.2,.ptr 0 0]) (fun p=>HHas p.1) (fun p=>0≤p.1∧p.1<512∧0≤p.2∧p.2<512) (fun p r=>r=bitB p.1 p.2) (fun p (r:Bool)=>(.bool r,HHas p.1))
theorem ze3:zf Tryz.prog 112 hasC:=by
 refine qI (fn:=Tryz.f112) (c:=Tryz.f112.body.getD .skip) rfl rfl rfl (fun h=>by cases h) fun p hp O w0 σ0 Q hl0 hq=> ?_
 obtain⟨p,q⟩:=p
 obtain⟨h1,h2,h3,h4⟩:=hp
 replace hq:=hq _ rfl
 simp only at h1 h2 h3 h4 hq
 refine zc.run hmix zD [] 400 (T:=.side (((0:Int)≤p∧p≤9223372036854775807)∧(0:Int)≤q∧q≤9223372036854775807) (.leaf (.ret [.bool !decide ((↑(Int.toNat p &&& Int.toNat q):Int)=0)] [.box [.int .i64 p]]))) (by kernel_rfl) ?_
 simp only [Tree.holds,zd,inR,lo,hi,Int.toNat_natCast]
 refine⟨by omega,fun _=> ?_⟩
 refine RetR.keep [0] rfl rfl (by show ∀ j,j<1→_; decide) rfl hq ?_ ?_ rfl
 ·show(!decide (((p.toNat &&& q.toNat:Nat):Int)=0))=bitB p q
  simp [bitB]
 ·exact⟨⟨⟨rfl,rfl⟩,trivial⟩,trivial⟩
noncomputable def GNd2:Nat→Option Ctr:=fun f=>if f=112 then some (hasC) else if f=49 then some (JI) else none
theorem zh3:∀ g c,GNd2 g=some c→zf Tryz.prog g c:=okIf ze3 (okIf Zs (zx))
def zii(p:Int):Heap:=[.box [.fn 112 [] [.ptr 1 0]],.box [.int .i64 p]]
def jX(b:Bool)(s:List UInt8):Bool:=if b=true then zQ s else decide (s=[])
def zj6:Ctr:=ctrT false false (fun p:Int×Int×List UInt8=>[.int .i64 p.2.1,.str p.2.2,.ptr 0 0]) (fun p=>zii p.1) (fun p=>0≤p.1∧p.1<512∧0≤p.2.1∧p.2.1<512∧p.2.2.length<2^62) (fun p r=>r=jX (bitB p.1 p.2.1) p.2.2) (fun p (r:Bool)=>(.bool r,zii p.1))
theorem zgo:zf Tryz.prog 113 zj6:=by
 refine qI (fn:=Tryz.f113) (c:=Tryz.f113.body.getD .skip) rfl rfl rfl (fun h=>by cases h) fun p hp O w0 σ0 Q hl0 hq=> ?_
 obtain⟨p,q,s⟩:=p
 obtain⟨h1,h2,h3,h4,h5⟩:=hp
 replace hq:=hq _ rfl
 simp only at h1 h2 h3 h4 h5 hq
 refine zc.run hmix zh3 [] 400 (T:=.ex (fun(x:Int×Int)=>eqL [AV.int .i64 q,AV.ptr 0 0] [AV.int .i64 x.2,AV.ptr 0 0]∧eqH [.box [AV.int .i64 p]] [.box [AV.int .i64 x.1]]∧1=1∧(0:Int)≤x.1∧x.1<512∧(0:Int)≤x.2∧x.2<512) fun n=>.all (fun(r:Bool)=>r=bitB n.1 n.2) fun n_1=>.ex (fun(x:List UInt8)=>n_1=true→eqL [AV.str s] [AV.str x]∧x.length<4611686018427387904) fun n_2=>.all (fun(x:Bool)=>n_1=true→x=zQ n_2) fun n_3=>.ite ((bif n_1 then n_3 else false) == false) (.ex (fun(x:Int×Int)=>eqL [AV.int .i64 q,AV.ptr 0 0] [AV.int .i64 x.2,AV.ptr 0 0]∧eqH [.box [AV.int .i64 n.1]] [.box [AV.int .i64 x.1]]∧1=1∧(0:Int)≤x.1∧x.1<512∧(0:Int)≤x.2∧x.2<512) fun n=>.all (fun(r:Bool)=>r=bitB n.1 n.2) fun n_4=>.leaf (.ret [.bool (bif bif n_1 then n_3 else false then true else bif !n_4 then decide (s=#[].toList) else false)] [.box [.fn 112 [] [.ptr 1 0]],.box [.int .i64 n.1]])) (.leaf (.ret [.bool (bif bif n_1 then n_3 else false then true else bif !false then decide (s=#[].toList) else false)] [.box [.fn 112 [] [.ptr 1 0]],.box [.int .i64 n.1]]))) (by kernel_rfl) ?_
 simp only [Tree.holds,zd,inR,lo,hi,Int.toNat_natCast]
 refine⟨(p,q),⟨⟨⟨rfl,rfl⟩,⟨rfl,rfl⟩,trivial⟩,⟨⟨⟨rfl,rfl⟩,trivial⟩,trivial⟩,trivial,h1,h2,h3,h4⟩,⟨_,rfl⟩,?_⟩
 rintro b rfl
 refine⟨s,fun _=>⟨⟨rfl,trivial⟩,h5⟩,⟨zQ s,fun _=>rfl⟩,fun m hm=>⟨fun hb=> ?_,fun hb=> ?_⟩⟩
 ·refine⟨(p,q),⟨⟨⟨rfl,rfl⟩,⟨rfl,rfl⟩,trivial⟩,⟨⟨⟨rfl,rfl⟩,trivial⟩,trivial⟩,trivial,h1,h2,h3,h4⟩,⟨_,rfl⟩,?_⟩
  rintro b rfl
  refine RetR.keep [0,1] rfl rfl (by show ∀ j,j<2→_; decide) rfl hq ?_ ?_ rfl
  ·simp only [exp2,exp1,exp0,resV,eqA2,jX]
   cases hbb:bitB p q with
   | true=>
    have:=hm hbb
    rw [hbb] at hb
    subst this
    have:zQ s=false:=by simpa using hb
    rw [this]; rfl
   | false=>simp; rfl
  ·exact⟨⟨rfl,trivial⟩,⟨⟨rfl,rfl⟩,trivial⟩,trivial⟩
 ·refine RetR.keep [0,1] rfl rfl (by show ∀ j,j<2→_; decide) rfl hq ?_ ?_ rfl
  ·simp only [exp2,exp1,exp0,resV,eqA2,jX]
   cases hbb:bitB p q with
   | true=>
    have:=hm hbb
    rw [hbb] at hb
    subst this
    have:zQ s=true:=by simpa using hb
    rw [this]; rfl
   | false=>rw [hbb] at hb; simp at hb
  ·exact⟨⟨rfl,trivial⟩,⟨⟨rfl,rfl⟩,trivial⟩,trivial⟩
noncomputable def GNd:Nat→Option Ctr:=fun f=>if f=112 then some (hasC) else if f=113 then some (zj6) else if f=114 then some ((UA 1)) else if f=115 then some ((UA 2)) else if f=108 then some (YH) else if f=116 then some (Xd) else if f=117 then some (zin) else none
theorem uG:∀ g c,GNd g=some c→zf Tryz.prog g c:=okIf ze3 (okIf zgo (okIf zjy (okIf ze0 (okIf WQ (okIf Wk (okIf zg8 (zx)))))))
end Go.Proofs.Tryz
end
section
namespace Go.Sx
variable [Stat]
section
variable {O:Nat→Prop} {pin:Nat} {w0:World} {σ0:List SE} {P:Program} {fn:Func} {Xp:List PanicEntry→Prop}
def fstC:Code→Code
 | .seq a _=>a
 | c=>c
def sndC:Code→Code
 | .seq _ b=>b
 | c=>c
def blkC:Code→Code
 | .block _ c=>c
 | c=>c
def blkI:Code→Nat
 | .block i _=>i
 | _=>0
theorem zc.cut{M:Option Nat}{ι:Type}{Hs:Nat→KV→Heap→Prop}{R:List AV→Heap→Prop}{k:List Item}{c:Code}{st:St}(S:ι→KV)(H:ι→Heap)(dk:Nat)
  (h1:zG Xp M P fn O pin w0 σ0 (fun d kv h=>if d=dk then ∃ x,LeK pin fn.ntmps kv h (S x) (H x) else Hs d kv h) R (.code c::.inLoop::k) st) (hd:jk k=dk)
  (h2:∀ x,zG Xp M P fn O pin w0 σ0 Hs R k (mk fn.ntmps (S x) (H x))):zG Xp M P fn O pin w0 σ0 Hs R (.code c::k) st:=by
 subst hd
 intro w σ a hm
 have:=h1 w σ a hm
 simp only [wpK] at this ⊢
 refine wpIn_mono this fun e a' w' he=> ?_
 cases e with
 | normal=>
  simp only [wpK] at he
  obtain⟨st',σ',⟨kv,h,hh,rfl⟩,hm'⟩:=he
  rw [if_pos trivial] at hh
  obtain⟨x,hle⟩:=hh
  exact h2 x w' _ a' (hle.le.mod hm')
 | _=>
  simp only [wpK] at he
  refine qS (fun d a w hd hh=> ?_) he
  obtain⟨st',σ',⟨kv,h,hh,rfl⟩,hm'⟩:=hh
  rw [if_neg (by omega)] at hh
  exact⟨_,σ',⟨kv,h,hh,rfl⟩,hm'⟩
theorem zc.seq{M:Option Nat}{Hs:Nat→KV→Heap→Prop}{R:List AV→Heap→Prop}{k:List Item}{c:Code}{st:St}(hc:c = .seq (fstC c) (sndC c))
  (h:zG Xp M P fn O pin w0 σ0 Hs R (.code (fstC c)::.code (sndC c)::k) st):zG Xp M P fn O pin w0 σ0 Hs R (.code c::k) st:=by
 rw [hc]
 generalize fstC c=a at h
 generalize sndC c=b at h
 intro w σ act hm
 have:=h w σ act hm
 simp only [wpK] at this ⊢
 refine wpIn_seq (wpIn_mono this fun e a w h=> ?_)
 cases e<;>exact h
theorem zc.block{M:Option Nat}{Hs:Nat→KV→Heap→Prop}{R:List AV→Heap→Prop}{k:List Item}{c:Code}{st:St}(hc:c = .block (blkI c) (blkC c))
  (h:zG Xp M P fn O pin w0 σ0 Hs R (.code (blkC c)::.inBlock (blkI c)::k) st):zG Xp M P fn O pin w0 σ0 Hs R (.code c::k) st:=by
 rw [hc]
 generalize blkC c=a at h
 generalize blkI c=i at h
 intro w σ act hm
 have:=h w σ act hm
 simp only [wpK] at this ⊢
 refine wpIn_block (wpIn_mono this fun e a w h=> ?_)
 cases e<;>exact h
end
end Go.Sx
end
section
namespace Go.Sx
variable [Stat]
section
variable {O:Nat→Prop} {pin:Nat} {w0:World} {σ0:List SE} {P:Program} {fn:Func} {Xp:List PanicEntry→Prop}
def xx:Nat→Code→List Item
 | n+1,.seq a b=>.code a::xx n b
 | _,c=>[.code c]
theorem QO{M:Option Nat}{H:Nat→Act→World→Prop}{B:Exit→Act→World→Prop}{k:List Item}{e:Exit}(he:e≠.normal){a:Act}{w:World} : ∀ (n:Nat) (c:Code),wpK M P H B (xx n c++k) e a w→wpK M P H B k e a w
 | 0,c,h=>by cases c<;>cases e<;>first | exact absurd rfl he | exact h
 | n+1,c,h=>by
  cases c with
  | seq x y=>cases e<;>first | exact absurd rfl he | exact QO he n y h
  | _=>cases e<;>first | exact absurd rfl he | exact h
theorem JK{M:Option Nat}{H:Nat→Act→World→Prop}{B:Exit→Act→World→Prop} : ∀ (n:Nat) (c:Code) (k:List Item) (a:Act) (w:World),wpK M P H B (xx n c++k) .normal a w→wpK M P H B (.code c::k) .normal a w
 | 0,c,k,a,w,h=>by cases c<;>exact h
 | n+1,c,k,a,w,h=>by
  cases c with
  | seq x y=>
   simp only [xx,List.cons_append,wpK] at h ⊢
   refine wpIn_seq (wpIn_mono h fun e a w h=> ?_)
   cases e with
   | normal=>exact JK n y k a w h
   | _=>exact QO (by simp) n y h
  | _=>exact h
theorem zc.spine{M:Option Nat}{Hs:Nat→KV→Heap→Prop}{R:List AV→Heap→Prop}{k:List Item}{c:Code}{st:St}(n:Nat)(h:zG Xp M P fn O pin w0 σ0 Hs R (Go.Sx.xx n c++k) st):zG Xp M P fn O pin w0 σ0 Hs R (.code c::k) st:=
 fun w σ a hm=>JK n c k a w (h w σ a hm)
def ZE:Item→Bool
 | .inLoop=>false
 | _=>true
theorem kN{M:Option Nat}{H H':Nat→Act→World→Prop}{B:Exit→Act→World→Prop}{k:List Item}(h1:∀ a w,H' (jk k) a w→wpK M P H B k .normal a w)(h2:∀ d a w,d<jk k→H' d a w→H d a w) :
  ∀ (ks:List Item),ks.all ZE=true→∀ (e:Exit) (a:Act) (w:World),wpK M P H' B (ks++.inLoop::k) e a w→wpK M P H B (ks++k) e a w
 | [],_,e,a,w,h=>by
  cases e with
  | normal=>exact h1 a w h
  | _=>exact qS (k:=k) (fun d a w hd h=>h2 d a w hd h) h
 | .code c::ks,hf,e,a,w,h=>by
  have hf':ks.all ZE=true:=by simpa [ZE] using hf
  cases e with
  | normal=>exact wpIn_mono h fun e a w h=>kN h1 h2 ks hf' e a w h
  | _=>exact kN h1 h2 ks hf' _ a w h
 | .inBlock id::ks,hf,e,a,w,h=>by
  have hf':ks.all ZE=true:=by simpa [ZE] using hf
  cases e with
  | normal=>exact kN h1 h2 ks hf' _ a w h
  | exit i=>
   simp only [List.cons_append,wpK] at h ⊢
   split at h
   ·rename_i hi; rw [if_pos hi]; exact kN h1 h2 ks hf' _ a w h
   ·rename_i hi; rw [if_neg hi]; exact kN h1 h2 ks hf' _ a w h
  | _=>exact kN h1 h2 ks hf' _ a w h
 | .inLoop::ks,hf,e,a,w,h=>by simp [ZE] at hf
theorem zc.cutL{M:Option Nat}{ι:Type}{Hs:Nat→KV→Heap→Prop}{R:List AV→Heap→Prop}{st:St}(L:List Item)(m dk:Nat)(S:ι→KV)(H:ι→Heap)(hf:(L.take m).all ZE=true)(hd:jk (L.drop m)=dk)
  (h1:zG Xp M P fn O pin w0 σ0 (fun d kv h=>if d=dk then ∃ x,LeK pin fn.ntmps kv h (S x) (H x) else Hs d kv h) R (L.take m++.inLoop::L.drop m) st)
  (h2:∀ x,zG Xp M P fn O pin w0 σ0 Hs R (L.drop m) (mk fn.ntmps (S x) (H x))):zG Xp M P fn O pin w0 σ0 Hs R L st:=by
 subst hd
 intro w σ a hm
 have:=h1 w σ a hm
 rw [← List.take_append_drop m L]
 refine kN ?_ ?_ (L.take m) hf .normal a w this
 ·rintro a' w' ⟨st',σ',⟨kv,h,hh,rfl⟩,hm'⟩
  rw [if_pos rfl] at hh
  obtain⟨x,hle⟩:=hh
  exact h2 x w' _ a' (hle.le.mod hm')
 ·rintro d a' w' hd ⟨st',σ',⟨kv,h,hh,rfl⟩,hm'⟩
  rw [if_neg (by omega)] at hh
  exact⟨_,σ',⟨kv,h,hh,rfl⟩,hm'⟩
end
end Go.Sx
end
section
set_option maxRecDepth 100000
open Go Go.Sx Go.Proofs Go.Nov
def Go.Nov.Con.p(c:Con):Int:=k5 c.kind
namespace Go.Proofs.Tryz
attribute [local simp] eqKV eqA eqA0 eqH eqB eqL eqL0
def zdx:Ctr:=ctrP true (fun c:Con=>[c.conA]) (fun c=>c.big<2^40) (fun c r=>r=c.kZ) (fun _ (r:Bool)=>(.bool r,[]))
noncomputable def LN:List Go.Sx.Item:=xx 12 (Tryz.f63.body.getD .skip)++[]
noncomputable def LN1:List Go.Sx.Item:=LN.drop 6
noncomputable def LN2:List Go.Sx.Item:=LN1.drop 1
noncomputable def LN3:List Go.Sx.Item:=LN2.drop 3
noncomputable def LN4:List Go.Sx.Item:=LN3.drop 1
noncomputable def LN5:List Go.Sx.Item:=LN4.drop 1
def HNd(c:Con):Heap:=[.box c.zj,.box [.int .i64 c.p],.box [.fn 112 [] [.ptr 1 0]]]
def SN1:KV:=[(1,.ptr 0 0),(5,.ptr 2 0),(6,.fn 113 [] [.ptr 2 0])]
def SN2(a:Bool):KV:=[(1,.ptr 0 0),(4,.bool a),(5,.ptr 2 0)]
def SN3(a:Bool)(m:Int):KV:=[(1,.ptr 0 0),(4,.bool a),(5,.ptr 2 0),(7,.int .i64 m)]
def SN4(a:Bool)(m:Int)(b:Bool):KV:=[(1,.ptr 0 0),(4,.bool a),(5,.ptr 2 0),(7,.int .i64 m),(8,.bool b)]
def SN5(a:Bool)(m:Int)(b d:Bool):KV:=[(1,.ptr 0 0),(4,.bool a),(7,.int .i64 m),(8,.bool b),(9,.bool d)]
namespace Nd
def words(c:Con):Prop:=jX (bitB c.p 1) c.src=true∧jX (bitB c.p 2) c.dst=true∧jX (bitB c.p 4) c.name=true∧¬ (bitB c.p 2=true∧c.src=c.dst)
def okX(c:Con):Bool:=if bitB c.p 8=true then numX c.x else if bitB c.p 16=true then truX c.x else qW c.x
def subs(c:Con):Int:=if bitB c.p 256=true then 2 else if bitB c.p 128=true then 1 else 0
def right(c:Con):Bool:=if bitB c.p 32=true then dayB c.date else decide (c.date=0)
def list(c:Con):Bool:=if bitB c.p 64=true then kX c.days else decide (c.days.length=0)
end Nd
theorem US(k:Int):0≤k5 k∧k5 k<512:=by
 unfold k5
 repeat' split
 all_goals decide
theorem J9{c:Con}(hk:1≤c.kind∧c.kind≤10):c.kZ=true↔Nd.words c∧Nd.okX c=true∧Nd.right c=true∧Nd.list c=true∧(c.sub.length:Int)=Nd.subs c:=by
 have hr:c.kind=1∨c.kind=2∨c.kind=3∨c.kind=4∨c.kind=5∨c.kind=6∨c.kind=7∨c.kind=8∨c.kind=9∨c.kind=10:=by omega
 unfold Con.kZ Js Nd.words Nd.okX Nd.right Nd.list Nd.subs Con.p k5 jX bitB
 generalize c.kind=k at hr hk
 generalize c.src=a
 generalize c.dst=b
 generalize c.name=n
 generalize c.x=x
 generalize c.date=d
 generalize c.days=l
 generalize c.sub.length=m
 rcases hr with rfl | rfl | rfl | rfl | rfl | rfl | rfl | rfl | rfl | rfl
 all_goals
  simp
  grind
theorem KM{c:Con}(h:¬ ((1≤c.kind∧c.kind≤10)∧Nd.words c)):c.kZ=false:=by
 by_cases hk:1≤c.kind∧c.kind≤10
 ·rw [Bool.eq_false_iff]
  exact fun hh=>h ⟨hk,((J9 hk).1 hh).1⟩
 ·unfold Con.kZ Js
  rw [if_neg (by omega),if_neg (by omega),if_neg (by omega),if_neg (by omega),if_neg (by omega),if_neg (by omega),if_neg (by omega),if_neg (by omega),if_neg (by omega)]
theorem zg4:zf Tryz.prog 63 zdx:=by
 refine zi (fn:=Tryz.f63) (c:=Tryz.f63.body.getD .skip) rfl rfl rfl fun c hc O w0 Q hq=> ?_
 replace hq:=hq _ rfl
 have hb:=hc
 rw [Con.uo] at hb
 obtain⟨hp0,hp1⟩:=US c.kind
 refine zc.spine 12 ?_
 refine zc.cutL (ι:={u:Unit // (1≤c.kind∧c.kind≤10)∧Nd.words c}) LN 6 0 (fun _=>SN1) (fun _=>HNd c) (by kernel_rfl) (by kernel_rfl) ?_ ?_
 ·refine zc.run hmix uG [1,5,6] 400 (T:=.ite (decide ((1:Int)≤Con.kind c∧Con.kind c≤10)) (.ite false (.leaf (.ret [.bool false] [.box (Con.zj c),.box [.int .i64 (k5 c.kind)]])) (.ex (fun(x:Int×Int×List UInt8)=>eqL [AV.int .i64 1,AV.str c.src,AV.ptr 0 0] [AV.int .i64 x.2.1,AV.str x.2.2,AV.ptr 0 0]∧eqH [.box [AV.fn 112 [] [AV.ptr 1 0]],.box [AV.int .i64 (k5 c.kind)]] [.box [AV.fn 112 [] [AV.ptr 1 0]],.box [AV.int .i64 x.1]]∧2=2∧(0:Int)≤x.1∧x.1<512∧(0:Int)≤x.2.1∧x.2.1<512∧x.2.2.length<4611686018427387904) fun n=>.all (fun(r:Bool)=>r=jX (bitB n.1 n.2.1) n.2.2) fun n_1=>.ite ((!n_1) == false) (.ex (fun(x:Int×Int×List UInt8)=>eqL [AV.int .i64 2,AV.str c.dst,AV.ptr 0 0] [AV.int .i64 x.2.1,AV.str x.2.2,AV.ptr 0 0]∧eqH [.box [AV.fn 112 [] [AV.ptr 1 0]],.box [AV.int .i64 n.1]] [.box [AV.fn 112 [] [AV.ptr 1 0]],.box [AV.int .i64 x.1]]∧2=2∧(0:Int)≤x.1∧x.1<512∧(0:Int)≤x.2.1∧x.2.1<512∧x.2.2.length<4611686018427387904) fun n=>.all (fun(r:Bool)=>r=jX (bitB n.1 n.2.1) n.2.2) fun n_2=>.ite ((bif !n_1 then true else !n_2) == false) (.ex (fun(x:Int×Int×List UInt8)=>eqL [AV.int .i64 4,AV.str c.name,AV.ptr 0 0] [AV.int .i64 x.2.1,AV.str x.2.2,AV.ptr 0 0]∧eqH [.box [AV.fn 112 [] [AV.ptr 1 0]],.box [AV.int .i64 n.1]] [.box [AV.fn 112 [] [AV.ptr 1 0]],.box [AV.int .i64 x.1]]∧2=2∧(0:Int)≤x.1∧x.1<512∧(0:Int)≤x.2.1∧x.2.1<512∧x.2.2.length<4611686018427387904) fun n=>.all (fun(r:Bool)=>r=jX (bitB n.1 n.2.1) n.2.2) fun n_3=>.ite ((bif bif !n_1 then true else !n_2 then true else !n_3) == false) (.ex (fun(x:Int×Int)=>eqL [AV.int .i64 2,AV.ptr 0 0] [AV.int .i64 x.2,AV.ptr 0 0]∧eqH [.box [AV.int .i64 n.1]] [.box [AV.int .i64 x.1]]∧1=1∧(0:Int)≤x.1∧x.1<512∧(0:Int)≤x.2∧x.2<512) fun n=>.all (fun(r:Bool)=>r=bitB n.1 n.2) fun n_4=>.ite (bif bif bif !n_1 then true else !n_2 then true else !n_3 then true else bif n_4 then decide (Con.src c=Con.dst c) else false) (.leaf (.ret [.bool false] [.box (Con.zj c),.box [.int .i64 n.1],.box [.fn 112 [] [.ptr 1 0]]])) (.leaf (.back 0 [(1,.ptr 0 0),(5,.ptr 2 0),(6,.fn 113 [] [.ptr 2 0])] [.box (Con.zj c),.box [.int .i64 n.1],.box [.fn 112 [] [.ptr 1 0]]]))) (.ite (bif bif bif !n_1 then true else !n_2 then true else !n_3 then true else bif false then decide (Con.src c=Con.dst c) else false) (.leaf (.ret [.bool false] [.box (Con.zj c),.box [.int .i64 n.1],.box [.fn 112 [] [.ptr 1 0]]])) (.leaf (.back 0 [(1,.ptr 0 0),(5,.ptr 2 0),(6,.fn 113 [] [.ptr 2 0])] [.box (Con.zj c),.box [.int .i64 n.1],.box [.fn 112 [] [.ptr 1 0]]])))) (.ite ((bif bif !n_1 then true else !n_2 then true else !false) == false) (.ex (fun(x:Int×Int)=>eqL [AV.int .i64 2,AV.ptr 0 0] [AV.int .i64 x.2,AV.ptr 0 0]∧eqH [.box [AV.int .i64 n.1]] [.box [AV.int .i64 x.1]]∧1=1∧(0:Int)≤x.1∧x.1<512∧(0:Int)≤x.2∧x.2<512) fun n=>.all (fun(r:Bool)=>r=bitB n.1 n.2) fun n_3=>.ite (bif bif bif !n_1 then true else !n_2 then true else !false then true else bif n_3 then decide (Con.src c=Con.dst c) else false) (.leaf (.ret [.bool false] [.box (Con.zj c),.box [.int .i64 n.1],.box [.fn 112 [] [.ptr 1 0]]])) (.leaf (.back 0 [(1,.ptr 0 0),(5,.ptr 2 0),(6,.fn 113 [] [.ptr 2 0])] [.box (Con.zj c),.box [.int .i64 n.1],.box [.fn 112 [] [.ptr 1 0]]]))) (.ite (bif bif bif !n_1 then true else !n_2 then true else !false then true else bif false then decide (Con.src c=Con.dst c) else false) (.leaf (.ret [.bool false] [.box (Con.zj c),.box [.int .i64 n.1],.box [.fn 112 [] [.ptr 1 0]]])) (.leaf (.back 0 [(1,.ptr 0 0),(5,.ptr 2 0),(6,.fn 113 [] [.ptr 2 0])] [.box (Con.zj c),.box [.int .i64 n.1],.box [.fn 112 [] [.ptr 1 0]]]))))) (.ite ((bif !n_1 then true else !false) == false) (.ex (fun(x:Int×Int×List UInt8)=>eqL [AV.int .i64 4,AV.str c.name,AV.ptr 0 0] [AV.int .i64 x.2.1,AV.str x.2.2,AV.ptr 0 0]∧eqH [.box [AV.fn 112 [] [AV.ptr 1 0]],.box [AV.int .i64 n.1]] [.box [AV.fn 112 [] [AV.ptr 1 0]],.box [AV.int .i64 x.1]]∧2=2∧(0:Int)≤x.1∧x.1<512∧(0:Int)≤x.2.1∧x.2.1<512∧x.2.2.length<4611686018427387904) fun n=>.all (fun(r:Bool)=>r=jX (bitB n.1 n.2.1) n.2.2) fun n_2=>.ite ((bif bif !n_1 then true else !false then true else !n_2) == false) (.ex (fun(x:Int×Int)=>eqL [AV.int .i64 2,AV.ptr 0 0] [AV.int .i64 x.2,AV.ptr 0 0]∧eqH [.box [AV.int .i64 n.1]] [.box [AV.int .i64 x.1]]∧1=1∧(0:Int)≤x.1∧x.1<512∧(0:Int)≤x.2∧x.2<512) fun n=>.all (fun(r:Bool)=>r=bitB n.1 n.2) fun n_3=>.ite (bif bif bif !n_1 then true else !false then true else !n_2 then true else bif n_3 then decide (Con.src c=Con.dst c) else false) (.leaf (.ret [.bool false] [.box (Con.zj c),.box [.int .i64 n.1],.box [.fn 112 [] [.ptr 1 0]]])) (.leaf (.back 0 [(1,.ptr 0 0),(5,.ptr 2 0),(6,.fn 113 [] [.ptr 2 0])] [.box (Con.zj c),.box [.int .i64 n.1],.box [.fn 112 [] [.ptr 1 0]]]))) (.ite (bif bif bif !n_1 then true else !false then true else !n_2 then true else bif false then decide (Con.src c=Con.dst c) else false) (.leaf (.ret [.bool false] [.box (Con.zj c),.box [.int .i64 n.1],.box [.fn 112 [] [.ptr 1 0]]])) (.leaf (.back 0 [(1,.ptr 0 0),(5,.ptr 2 0),(6,.fn 113 [] [.ptr 2 0])] [.box (Con.zj c),.box [.int .i64 n.1],.box [.fn 112 [] [.ptr 1 0]]])))) (.ite ((bif bif !n_1 then true else !false then true else !false) == false) (.ex (fun(x:Int×Int)=>eqL [AV.int .i64 2,AV.ptr 0 0] [AV.int .i64 x.2,AV.ptr 0 0]∧eqH [.box [AV.int .i64 n.1]] [.box [AV.int .i64 x.1]]∧1=1∧(0:Int)≤x.1∧x.1<512∧(0:Int)≤x.2∧x.2<512) fun n=>.all (fun(r:Bool)=>r=bitB n.1 n.2) fun n_2=>.ite (bif bif bif !n_1 then true else !false then true else !false then true else bif n_2 then decide (Con.src c=Con.dst c) else false) (.leaf (.ret [.bool false] [.box (Con.zj c),.box [.int .i64 n.1],.box [.fn 112 [] [.ptr 1 0]]])) (.leaf (.back 0 [(1,.ptr 0 0),(5,.ptr 2 0),(6,.fn 113 [] [.ptr 2 0])] [.box (Con.zj c),.box [.int .i64 n.1],.box [.fn 112 [] [.ptr 1 0]]]))) (.ite (bif bif bif !n_1 then true else !false then true else !false then true else bif false then decide (Con.src c=Con.dst c) else false) (.leaf (.ret [.bool false] [.box (Con.zj c),.box [.int .i64 n.1],.box [.fn 112 [] [.ptr 1 0]]])) (.leaf (.back 0 [(1,.ptr 0 0),(5,.ptr 2 0),(6,.fn 113 [] [.ptr 2 0])] [.box (Con.zj c),.box [.int .i64 n.1],.box [.fn 112 [] [.ptr 1 0]]]))))))) (.ite true (.leaf (.ret [.bool false] [.box (Con.zj c),.box [.int .i64 0]])) (.ex (fun(x:Int×Int×List UInt8)=>eqL [AV.int .i64 1,AV.str c.src,AV.ptr 0 0] [AV.int .i64 x.2.1,AV.str x.2.2,AV.ptr 0 0]∧eqH [.box [AV.fn 112 [] [AV.ptr 1 0]],.box [AV.int .i64 0]] [.box [AV.fn 112 [] [AV.ptr 1 0]],.box [AV.int .i64 x.1]]∧2=2∧(0:Int)≤x.1∧x.1<512∧(0:Int)≤x.2.1∧x.2.1<512∧x.2.2.length<4611686018427387904) fun n=>.all (fun(r:Bool)=>r=jX (bitB n.1 n.2.1) n.2.2) fun n_1=>.ite ((!n_1) == false) (.ex (fun(x:Int×Int×List UInt8)=>eqL [AV.int .i64 2,AV.str c.dst,AV.ptr 0 0] [AV.int .i64 x.2.1,AV.str x.2.2,AV.ptr 0 0]∧eqH [.box [AV.fn 112 [] [AV.ptr 1 0]],.box [AV.int .i64 n.1]] [.box [AV.fn 112 [] [AV.ptr 1 0]],.box [AV.int .i64 x.1]]∧2=2∧(0:Int)≤x.1∧x.1<512∧(0:Int)≤x.2.1∧x.2.1<512∧x.2.2.length<4611686018427387904) fun n=>.all (fun(r:Bool)=>r=jX (bitB n.1 n.2.1) n.2.2) fun n_2=>.ite ((bif !n_1 then true else !n_2) == false) (.ex (fun(x:Int×Int×List UInt8)=>eqL [AV.int .i64 4,AV.str c.name,AV.ptr 0 0] [AV.int .i64 x.2.1,AV.str x.2.2,AV.ptr 0 0]∧eqH [.box [AV.fn 112 [] [AV.ptr 1 0]],.box [AV.int .i64 n.1]] [.box [AV.fn 112 [] [AV.ptr 1 0]],.box [AV.int .i64 x.1]]∧2=2∧(0:Int)≤x.1∧x.1<512∧(0:Int)≤x.2.1∧x.2.1<512∧x.2.2.length<4611686018427387904) fun n=>.all (fun(r:Bool)=>r=jX (bitB n.1 n.2.1) n.2.2) fun n_3=>.ite ((bif bif !n_1 then true else !n_2 then true else !n_3) == false) (.ex (fun(x:Int×Int)=>eqL [AV.int .i64 2,AV.ptr 0 0] [AV.int .i64 x.2,AV.ptr 0 0]∧eqH [.box [AV.int .i64 n.1]] [.box [AV.int .i64 x.1]]∧1=1∧(0:Int)≤x.1∧x.1<512∧(0:Int)≤x.2∧x.2<512) fun n=>.all (fun(r:Bool)=>r=bitB n.1 n.2) fun n_4=>.ite (bif bif bif !n_1 then true else !n_2 then true else !n_3 then true else bif n_4 then decide (Con.src c=Con.dst c) else false) (.leaf (.ret [.bool false] [.box (Con.zj c),.box [.int .i64 n.1],.box [.fn 112 [] [.ptr 1 0]]])) (.leaf (.back 0 [(1,.ptr 0 0),(5,.ptr 2 0),(6,.fn 113 [] [.ptr 2 0])] [.box (Con.zj c),.box [.int .i64 n.1],.box [.fn 112 [] [.ptr 1 0]]]))) (.ite (bif bif bif !n_1 then true else !n_2 then true else !n_3 then true else bif false then decide (Con.src c=Con.dst c) else false) (.leaf (.ret [.bool false] [.box (Con.zj c),.box [.int .i64 n.1],.box [.fn 112 [] [.ptr 1 0]]])) (.leaf (.back 0 [(1,.ptr 0 0),(5,.ptr 2 0),(6,.fn 113 [] [.ptr 2 0])] [.box (Con.zj c),.box [.int .i64 n.1],.box [.fn 112 [] [.ptr 1 0]]])))) (.ite ((bif bif !n_1 then true else !n_2 then true else !false) == false) (.ex (fun(x:Int×Int)=>eqL [AV.int .i64 2,AV.ptr 0 0] [AV.int .i64 x.2,AV.ptr 0 0]∧eqH [.box [AV.int .i64 n.1]] [.box [AV.int .i64 x.1]]∧1=1∧(0:Int)≤x.1∧x.1<512∧(0:Int)≤x.2∧x.2<512) fun n=>.all (fun(r:Bool)=>r=bitB n.1 n.2) fun n_3=>.ite (bif bif bif !n_1 then true else !n_2 then true else !false then true else bif n_3 then decide (Con.src c=Con.dst c) else false) (.leaf (.ret [.bool false] [.box (Con.zj c),.box [.int .i64 n.1],.box [.fn 112 [] [.ptr 1 0]]])) (.leaf (.back 0 [(1,.ptr 0 0),(5,.ptr 2 0),(6,.fn 113 [] [.ptr 2 0])] [.box (Con.zj c),.box [.int .i64 n.1],.box [.fn 112 [] [.ptr 1 0]]]))) (.ite (bif bif bif !n_1 then true else !n_2 then true else !false then true else bif false then decide (Con.src c=Con.dst c) else false) (.leaf (.ret [.bool false] [.box (Con.zj c),.box [.int .i64 n.1],.box [.fn 112 [] [.ptr 1 0]]])) (.leaf (.back 0 [(1,.ptr 0 0),(5,.ptr 2 0),(6,.fn 113 [] [.ptr 2 0])] [.box (Con.zj c),.box [.int .i64 n.1],.box [.fn 112 [] [.ptr 1 0]]]))))) (.ite ((bif !n_1 then true else !false) == false) (.ex (fun(x:Int×Int×List UInt8)=>eqL [AV.int .i64 4,AV.str c.name,AV.ptr 0 0] [AV.int .i64 x.2.1,AV.str x.2.2,AV.ptr 0 0]∧eqH [.box [AV.fn 112 [] [AV.ptr 1 0]],.box [AV.int .i64 n.1]] [.box [AV.fn 112 [] [AV.ptr 1 0]],.box [AV.int .i64 x.1]]∧2=2∧(0:Int)≤x.1∧x.1<512∧(0:Int)≤x.2.1∧x.2.1<512∧x.2.2.length<4611686018427387904) fun n=>.all (fun(r:Bool)=>r=jX (bitB n.1 n.2.1) n.2.2) fun n_2=>.ite ((bif bif !n_1 then true else !false then true else !n_2) == false) (.ex (fun(x:Int×Int)=>eqL [AV.int .i64 2,AV.ptr 0 0] [AV.int .i64 x.2,AV.ptr 0 0]∧eqH [.box [AV.int .i64 n.1]] [.box [AV.int .i64 x.1]]∧1=1∧(0:Int)≤x.1∧x.1<512∧(0:Int)≤x.2∧x.2<512) fun n=>.all (fun(r:Bool)=>r=bitB n.1 n.2) fun n_3=>.ite (bif bif bif !n_1 then true else !false then true else !n_2 then true else bif n_3 then decide (Con.src c=Con.dst c) else false) (.leaf (.ret [.bool false] [.box (Con.zj c),.box [.int .i64 n.1],.box [.fn 112 [] [.ptr 1 0]]])) (.leaf (.back 0 [(1,.ptr 0 0),(5,.ptr 2 0),(6,.fn 113 [] [.ptr 2 0])] [.box (Con.zj c),.box [.int .i64 n.1],.box [.fn 112 [] [.ptr 1 0]]]))) (.ite (bif bif bif !n_1 then true else !false then true else !n_2 then true else bif false then decide (Con.src c=Con.dst c) else false) (.leaf (.ret [.bool false] [.box (Con.zj c),.box [.int .i64 n.1],.box [.fn 112 [] [.ptr 1 0]]])) (.leaf (.back 0 [(1,.ptr 0 0),(5,.ptr 2 0),(6,.fn 113 [] [.ptr 2 0])] [.box (Con.zj c),.box [.int .i64 n.1],.box [.fn 112 [] [.ptr 1 0]]])))) (.ite ((bif bif !n_1 then true else !false then true else !false) == false) (.ex (fun(x:Int×Int)=>eqL [AV.int .i64 2,AV.ptr 0 0] [AV.int .i64 x.2,AV.ptr 0 0]∧eqH [.box [AV.int .i64 n.1]] [.box [AV.int .i64 x.1]]∧1=1∧(0:Int)≤x.1∧x.1<512∧(0:Int)≤x.2∧x.2<512) fun n=>.all (fun(r:Bool)=>r=bitB n.1 n.2) fun n_2=>.ite (bif bif bif !n_1 then true else !false then true else !false then true else bif n_2 then decide (Con.src c=Con.dst c) else false) (.leaf (.ret [.bool false] [.box (Con.zj c),.box [.int .i64 n.1],.box [.fn 112 [] [.ptr 1 0]]])) (.leaf (.back 0 [(1,.ptr 0 0),(5,.ptr 2 0),(6,.fn 113 [] [.ptr 2 0])] [.box (Con.zj c),.box [.int .i64 n.1],.box [.fn 112 [] [.ptr 1 0]]]))) (.ite (bif bif bif !n_1 then true else !false then true else !false then true else bif false then decide (Con.src c=Con.dst c) else false) (.leaf (.ret [.bool false] [.box (Con.zj c),.box [.int .i64 n.1],.box [.fn 112 [] [.ptr 1 0]]])) (.leaf (.back 0 [(1,.ptr 0 0),(5,.ptr 2 0),(6,.fn 113 [] [.ptr 2 0])] [.box (Con.zj c),.box [.int .i64 n.1],.box [.fn 112 [] [.ptr 1 0]]])))))))) (by kernel_rfl) ?_
  simp only [Tree.holds,zd,inR,lo,hi,Int.toNat_natCast]
  obtain⟨b1,e1⟩:∃ b,jX (bitB c.p 1) c.src=b:=⟨_,rfl⟩
  obtain⟨b2,e2⟩:∃ b,jX (bitB c.p 2) c.dst=b:=⟨_,rfl⟩
  obtain⟨b3,e3⟩:∃ b,jX (bitB c.p 4) c.name=b:=⟨_,rfl⟩
  obtain⟨b4,e4⟩:∃ b,bitB c.p 2=b:=⟨_,rfl⟩
  obtain⟨b5,e5⟩:∃ b,decide (c.src=c.dst)=b:=⟨_,rfl⟩
  have hbad:¬ ((1≤c.kind∧c.kind≤10)∧Nd.words c)→∀ h,RetR zdx 0 Q [.bool false] h:=fun hn h=>by
   have:c.kZ=false:=KM hn
   rw [this] at hq
   exact RetR.scal hq rfl (by simp [resV])
  refine⟨fun hk=>⟨fun h=>(by cases h),fun _=> ?_⟩,fun hk=> ?_⟩
  ·have hk:=of_decide_eq_true hk
   refine⟨(c.p,1,c.src),⟨by simp,by simp [Con.p],trivial,hp0,hp1,(by simp only; omega),(by simp only; omega),by simp only; omega⟩,⟨_,rfl⟩,?_⟩
   rintro _ rfl
   simp only [e1]
   cases b1 with
   | false=>exact⟨fun h=>by simp at h,fun _=>⟨fun h=>by simp at h,fun _=>⟨fun h=>by simp at h,fun _=>⟨fun _=>hbad (fun h=>by have:=h.2.1; rw [e1] at this; cases this) _,fun h=>by simp at h⟩⟩⟩⟩
   | true=>
   refine⟨fun _=> ?_,fun h=>by simp at h⟩
   refine⟨(c.p,2,c.dst),⟨by simp,by simp [Con.p],trivial,hp0,hp1,(by simp only; omega),(by simp only; omega),by simp only; omega⟩,⟨_,rfl⟩,?_⟩
   rintro _ rfl
   simp only [e2]
   cases b2 with
   | false=>exact⟨fun h=>by simp at h,fun _=>⟨fun h=>by simp at h,fun _=>⟨fun _=>hbad (fun h=>by have:=h.2.2.1; rw [e2] at this; cases this) _,fun h=>by simp at h⟩⟩⟩
   | true=>
   refine⟨fun _=> ?_,fun h=>by simp at h⟩
   refine⟨(c.p,4,c.name),⟨by simp,by simp [Con.p],trivial,hp0,hp1,(by simp only; omega),(by simp only; omega),by simp only; omega⟩,⟨_,rfl⟩,?_⟩
   rintro _ rfl
   simp only [e3]
   cases b3 with
   | false=>exact⟨fun h=>by simp at h,fun _=>⟨fun _=>hbad (fun h=>by have:=h.2.2.2.1; rw [e3] at this; cases this) _,fun h=>by simp at h⟩⟩
   | true=>
   refine⟨fun _=> ?_,fun h=>by simp at h⟩
   refine⟨(c.p,2),⟨by simp,by simp [Con.p],trivial,hp0,hp1,(by simp only; omega),(by simp only; omega)⟩,⟨_,rfl⟩,?_⟩
   rintro _ rfl
   simp only [e4]
   refine⟨fun h=> ?_,fun h=> ?_⟩
   ·refine hbad (fun hn=>hn.2.2.2.2 ?_) _
    cases b4 with
    | false=>simp at h
    | true=>exact⟨e4,by simpa using h⟩
   ·rw [if_pos trivial]
    refine⟨⟨(),hk,e1,e2,e3,fun hh=> ?_⟩,by simp [SN1],⟨zF c,⟨⟨rfl,rfl⟩,trivial⟩,⟨rfl,trivial⟩,trivial⟩,by kernel_rfl,Nat.zero_le _⟩
    rw [e4] at hh
    rw [hh.1] at h
    simp [hh.2] at h
  ·have hk:=of_decide_eq_false hk
   refine⟨fun _=>hbad (fun h=>hk h.1) _,fun h=>by cases h⟩
 ·rintro⟨_,hk,hw⟩
  show zE none Tryz.prog Tryz.f63 O 0 w0 [] _ _ LN1 _
  refine zc.cutL (ι:=Unit) LN1 1 0 (fun _=>SN2 (Nd.okX c)) (fun _=>HNd c) (by kernel_rfl) (by kernel_rfl) ?_ ?_
  ·refine zc.run hmix uG [1,4,5] 400 (T:=.ex (fun(x:Int×Int)=>eqL [AV.int .i64 8,AV.ptr 0 0] [AV.int .i64 x.2,AV.ptr 0 0]∧eqH [.box [AV.int .i64 (Con.p c)]] [.box [AV.int .i64 x.1]]∧1=1∧(0:Int)≤x.1∧x.1<512∧(0:Int)≤x.2∧x.2<512) fun n=>.all (fun(r:Bool)=>r=bitB n.1 n.2) fun n_1=>.ite n_1 (.ex (fun(x:Ex)=>eqL [(Ex.exA c.x)] [x.exA]∧Ex.size x<1099511627776∧Ex.zu x<1099511627776) fun n_2=>.all (fun(r:Bool)=>r=(decide (Ex.errX n_2=0)&&decide (Ex.zJ n_2=1))) fun n_3=>.leaf (.back 0 [(1,.ptr 0 0),(4,.bool n_3),(5,.ptr 2 0)] [.box (Con.zj c),.box [.int .i64 n.1],.box [.fn 112 [] [.ptr 1 0]]])) (.ex (fun(x:Int×Int)=>eqL [AV.int .i64 16,AV.ptr 0 0] [AV.int .i64 x.2,AV.ptr 0 0]∧eqH [.box [AV.int .i64 n.1]] [.box [AV.int .i64 x.1]]∧1=1∧(0:Int)≤x.1∧x.1<512∧(0:Int)≤x.2∧x.2<512) fun n=>.all (fun(r:Bool)=>r=bitB n.1 n.2) fun n_2=>.ite n_2 (.ex (fun(x:Ex)=>eqL [(Ex.exA c.x)] [x.exA]∧Ex.size x<1099511627776∧Ex.zu x<1099511627776) fun n_3=>.all (fun(r:Bool)=>r=(decide (Ex.errX n_3=0)&&decide (Ex.zJ n_3=2))) fun n_4=>.leaf (.back 0 [(1,.ptr 0 0),(4,.bool n_4),(5,.ptr 2 0)] [.box (Con.zj c),.box [.int .i64 n.1],.box [.fn 112 [] [.ptr 1 0]]])) (.ex (fun(x:Ex)=>eqL [(Ex.exA c.x)] [x.exA]∧True) fun n_3=>.all (fun(r:Bool)=>r=qW n_3) fun n_4=>.leaf (.back 0 [(1,.ptr 0 0),(4,.bool n_4),(5,.ptr 2 0)] [.box (Con.zj c),.box [.int .i64 n.1],.box [.fn 112 [] [.ptr 1 0]]])))) (by kernel_rfl) ?_
   simp only [Tree.holds,zd,inR,lo,hi,Int.toNat_natCast]
   have hx1:c.x.size<2^40:=by omega
   have hx2:c.x.zu<2^40:=by omega
   have leaf:∀ b,b=Nd.okX c→LeK 0 Tryz.f63.ntmps [(1,.ptr 0 0),(4,.bool b),(5,.ptr 2 0)] (HNd c) (SN2 (Nd.okX c)) (HNd c):=fun b hb=>by
    subst hb
    exact⟨by simp [SN2],⟨zF c,⟨⟨rfl,rfl⟩,trivial⟩,⟨rfl,trivial⟩,trivial⟩,by kernel_rfl,Nat.zero_le _⟩
   refine⟨(c.p,8),⟨by simp,by simp,trivial,hp0,hp1,(by simp only; omega),(by simp only; omega)⟩,⟨_,rfl⟩,?_⟩
   rintro _ rfl
   refine⟨fun h=> ?_,fun h=> ?_⟩
   ·refine⟨c.x,⟨(by first | exact⟨j1 _,trivial⟩ | simp [zb]),hx1,hx2⟩,⟨_,rfl⟩,?_⟩
    rintro _ rfl
    rw [if_pos trivial]
    exact⟨(),leaf _ (by unfold Nd.okX; rw [if_pos h]; rfl)⟩
   ·have h8:¬ bitB c.p 8=true:=by simpa using h
    refine⟨(c.p,16),⟨by simp,by simp,trivial,hp0,hp1,(by simp only; omega),(by simp only; omega)⟩,⟨_,rfl⟩,?_⟩
    rintro _ rfl
    refine⟨fun h=> ?_,fun h=> ?_⟩
    ·refine⟨c.x,⟨(by first | exact⟨j1 _,trivial⟩ | simp [zb]),hx1,hx2⟩,⟨_,rfl⟩,?_⟩
     rintro _ rfl
     rw [if_pos trivial]
     exact⟨(),leaf _ (by unfold Nd.okX; rw [if_neg h8,if_pos h]; rfl)⟩
    ·refine⟨c.x,⟨(by first | exact⟨j1 _,trivial⟩ | simp [zb]),trivial⟩,⟨_,rfl⟩,?_⟩
     rintro _ rfl
     rw [if_pos trivial]
     exact⟨(),leaf _ (by unfold Nd.okX; rw [if_neg h8,if_neg (by simpa using h)])⟩
  ·rintro⟨⟩
   obtain⟨a,ea⟩:∃ a,Nd.okX c=a:=⟨_,rfl⟩
   rw [ea]
   show zE none Tryz.prog Tryz.f63 O 0 w0 [] _ _ LN2 _
   refine zc.cutL (ι:=Unit) LN2 3 0 (fun _=>SN3 a (Nd.subs c)) (fun _=>HNd c) (by kernel_rfl) (by kernel_rfl) ?_ ?_
   ·refine zc.run hmix uG [1,4,5,7] 400 (T:=.ex (fun(x:Int×Int)=>eqL [AV.int .i64 128,AV.ptr 0 0] [AV.int .i64 x.2,AV.ptr 0 0]∧eqH [.box [AV.int .i64 (Con.p c)]] [.box [AV.int .i64 x.1]]∧1=1∧(0:Int)≤x.1∧x.1<512∧(0:Int)≤x.2∧x.2<512) fun n=>.all (fun(r:Bool)=>r=bitB n.1 n.2) fun n_1=>.ite n_1 (.ex (fun(x:Int×Int)=>eqL [AV.int .i64 256,AV.ptr 0 0] [AV.int .i64 x.2,AV.ptr 0 0]∧eqH [.box [AV.int .i64 n.1]] [.box [AV.int .i64 x.1]]∧1=1∧(0:Int)≤x.1∧x.1<512∧(0:Int)≤x.2∧x.2<512) fun n=>.all (fun(r:Bool)=>r=bitB n.1 n.2) fun n_2=>.ite n_2 (.leaf (.back 0 [(1,.ptr 0 0),(4,.bool a),(5,.ptr 2 0),(7,.int .i64 2)] [.box (Con.zj c),.box [.int .i64 n.1],.box [.fn 112 [] [.ptr 1 0]]])) (.leaf (.back 0 [(1,.ptr 0 0),(4,.bool a),(5,.ptr 2 0),(7,.int .i64 1)] [.box (Con.zj c),.box [.int .i64 n.1],.box [.fn 112 [] [.ptr 1 0]]]))) (.ex (fun(x:Int×Int)=>eqL [AV.int .i64 256,AV.ptr 0 0] [AV.int .i64 x.2,AV.ptr 0 0]∧eqH [.box [AV.int .i64 n.1]] [.box [AV.int .i64 x.1]]∧1=1∧(0:Int)≤x.1∧x.1<512∧(0:Int)≤x.2∧x.2<512) fun n=>.all (fun(r:Bool)=>r=bitB n.1 n.2) fun n_2=>.ite n_2 (.leaf (.back 0 [(1,.ptr 0 0),(4,.bool a),(5,.ptr 2 0),(7,.int .i64 2)] [.box (Con.zj c),.box [.int .i64 n.1],.box [.fn 112 [] [.ptr 1 0]]])) (.leaf (.back 0 [(1,.ptr 0 0),(4,.bool a),(5,.ptr 2 0),(7,.int .i64 0)] [.box (Con.zj c),.box [.int .i64 n.1],.box [.fn 112 [] [.ptr 1 0]]])))) (by kernel_rfl) ?_
    simp only [Tree.holds,zd,inR,lo,hi,Int.toNat_natCast]
    have leaf:∀ m:Int,m=Nd.subs c→LeK 0 Tryz.f63.ntmps [(1,.ptr 0 0),(4,.bool a),(5,.ptr 2 0),(7,.int .i64 m)] (HNd c) (SN3 a (Nd.subs c)) (HNd c):=fun m hm=>by
     subst hm
     exact⟨by simp [SN3],⟨zF c,⟨⟨rfl,rfl⟩,trivial⟩,⟨rfl,trivial⟩,trivial⟩,by kernel_rfl,Nat.zero_le _⟩
    refine⟨(c.p,128),⟨by simp,by simp,trivial,hp0,hp1,(by simp only; omega),(by simp only; omega)⟩,⟨_,rfl⟩,?_⟩
    rintro _ rfl
    refine⟨fun h1=> ?_,fun h1=> ?_⟩
    all_goals
     refine⟨(c.p,256),⟨by simp,by simp,trivial,hp0,hp1,(by simp only; omega),(by simp only; omega)⟩,⟨_,rfl⟩,?_⟩
     rintro _ rfl
     refine⟨fun h2=> ?_,fun h2=> ?_⟩
     all_goals
      rw [if_pos trivial]
      simp only at h1 h2
      exact⟨(),leaf _ (by unfold Nd.subs; simp [h1,h2])⟩
   ·rintro⟨⟩
    show zE none Tryz.prog Tryz.f63 O 0 w0 [] _ _ LN3 _
    obtain⟨m,em⟩:∃ m,Nd.subs c=m:=⟨_,rfl⟩
    rw [em]
    refine zc.cutL (ι:=Unit) LN3 1 0 (fun _=>SN4 a m (Nd.right c)) (fun _=>HNd c) (by kernel_rfl) (by kernel_rfl) ?_ ?_
    ·refine zc.run hmix uG [1,4,5,7,8] 400 (T:=.ex (fun(x:Int×Int)=>eqL [AV.int .i64 32,AV.ptr 0 0] [AV.int .i64 x.2,AV.ptr 0 0]∧eqH [.box [AV.int .i64 (Con.p c)]] [.box [AV.int .i64 x.1]]∧1=1∧(0:Int)≤x.1∧x.1<512∧(0:Int)≤x.2∧x.2<512) fun n=>.all (fun(r:Bool)=>r=bitB n.1 n.2) fun n_1=>.ite ((bif n_1 then bif decide ((0:Int)≤Con.date c) then decide (Con.date c≤99999) else false else false) == false) (.ex (fun(x:Int×Int)=>eqL [AV.int .i64 32,AV.ptr 0 0] [AV.int .i64 x.2,AV.ptr 0 0]∧eqH [.box [AV.int .i64 n.1]] [.box [AV.int .i64 x.1]]∧1=1∧(0:Int)≤x.1∧x.1<512∧(0:Int)≤x.2∧x.2<512) fun n=>.all (fun(r:Bool)=>r=bitB n.1 n.2) fun n_2=>.leaf (.back 0 [(1,.ptr 0 0),(4,.bool a),(5,.ptr 2 0),(7,.int .i64 m),(8,.bool (bif bif n_1 then bif decide ((0:Int)≤Con.date c) then decide (Con.date c≤99999) else false else false then true else bif !n_2 then decide (Con.date c=0) else false))] [.box (Con.zj c),.box [.int .i64 n.1],.box [.fn 112 [] [.ptr 1 0]]])) (.leaf (.back 0 [(1,.ptr 0 0),(4,.bool a),(5,.ptr 2 0),(7,.int .i64 m),(8,.bool (bif bif n_1 then bif decide ((0:Int)≤Con.date c) then decide (Con.date c≤99999) else false else false then true else bif !false then decide (Con.date c=0) else false))] [.box (Con.zj c),.box [.int .i64 n.1],.box [.fn 112 [] [.ptr 1 0]]]))) (by kernel_rfl) ?_
     simp only [Tree.holds,zd,inR,lo,hi,Int.toNat_natCast]
     have leaf:∀ b,b=Nd.right c→LeK 0 Tryz.f63.ntmps [(1,.ptr 0 0),(4,.bool a),(5,.ptr 2 0),(7,.int .i64 m),(8,.bool b)] (HNd c) (SN4 a m (Nd.right c)) (HNd c):=fun b hb=>by
      subst hb
      exact⟨by simp [SN4],⟨zF c,⟨⟨rfl,rfl⟩,trivial⟩,⟨rfl,trivial⟩,trivial⟩,by kernel_rfl,Nat.zero_le _⟩
     refine⟨(c.p,32),⟨by simp,by simp,trivial,hp0,hp1,(by simp only; omega),(by simp only; omega)⟩,⟨_,rfl⟩,?_⟩
     rintro _ rfl
     refine⟨fun h1=> ?_,fun h1=> ?_⟩
     ·refine⟨(c.p,32),⟨by simp,by simp,trivial,hp0,hp1,(by simp only; omega),(by simp only; omega)⟩,⟨_,rfl⟩,?_⟩
      rintro _ rfl
      rw [if_pos trivial]
      refine⟨(),leaf _ ?_⟩
      unfold Nd.right dayB
      simp only
      cases bitB c.p 32<;>simp [Bool.cond_eq_ite]
     ·rw [if_pos trivial]
      refine⟨(),leaf _ ?_⟩
      unfold Nd.right dayB
      simp only at h1 ⊢
      revert h1
      cases bitB c.p 32<;>simp [Bool.cond_eq_ite]
      exact fun h1 h2 _=>⟨h1,h2⟩
    ·rintro⟨⟩
     show zE none Tryz.prog Tryz.f63 O 0 w0 [] _ _ LN4 _
     obtain⟨b,eb⟩:∃ b,Nd.right c=b:=⟨_,rfl⟩
     rw [eb]
     refine zc.cutL (ι:=Unit) LN4 1 0 (fun _=>SN5 a m b (Nd.list c)) (fun _=>HNd c) (by kernel_rfl) (by kernel_rfl) ?_ ?_
     ·refine zc.run hmix uG [1,4,7,8,9] 400 (T:=.ex (fun(x:Int×Int)=>eqL [AV.int .i64 64,AV.ptr 0 0] [AV.int .i64 x.2,AV.ptr 0 0]∧eqH [.box [AV.int .i64 (Con.p c)]] [.box [AV.int .i64 x.1]]∧1=1∧(0:Int)≤x.1∧x.1<512∧(0:Int)≤x.2∧x.2<512) fun n=>.all (fun(r:Bool)=>r=bitB n.1 n.2) fun n_1=>.ex (fun(x:List Int)=>n_1=true→eqL [AV.sl c.days.length 1 (Con.dayG c.days)] [AV.sl x.length 1 (Con.dayG x)]∧x.length<1099511627776) fun n_2=>.all (fun(x:Bool)=>n_1=true→x=kX n_2) fun n_3=>.ite ((bif n_1 then n_3 else false) == false) (.ex (fun(x:Int×Int)=>eqL [AV.int .i64 64,AV.ptr 0 0] [AV.int .i64 x.2,AV.ptr 0 0]∧eqH [.box [AV.int .i64 n.1]] [.box [AV.int .i64 x.1]]∧1=1∧(0:Int)≤x.1∧x.1<512∧(0:Int)≤x.2∧x.2<512) fun n=>.all (fun(r:Bool)=>r=bitB n.1 n.2) fun n_4=>.leaf (.back 0 [(1,.ptr 0 0),(4,.bool a),(7,.int .i64 m),(8,.bool b),(9,.bool (bif bif n_1 then n_3 else false then true else bif !n_4 then decide ((↑c.days.length:Int)=0) else false))] [.box (Con.zj c),.box [.int .i64 n.1],.box [.fn 112 [] [.ptr 1 0]]])) (.leaf (.back 0 [(1,.ptr 0 0),(4,.bool a),(7,.int .i64 m),(8,.bool b),(9,.bool (bif bif n_1 then n_3 else false then true else bif !false then decide ((↑c.days.length:Int)=0) else false))] [.box (Con.zj c),.box [.int .i64 n.1],.box [.fn 112 [] [.ptr 1 0]]]))) (by kernel_rfl) ?_
      simp only [Tree.holds,zd,inR,lo,hi,Int.toNat_natCast]
      have leaf:∀ d,d=Nd.list c→LeK 0 Tryz.f63.ntmps [(1,.ptr 0 0),(4,.bool a),(7,.int .i64 m),(8,.bool b),(9,.bool d)] (HNd c) (SN5 a m b (Nd.list c)) (HNd c):=fun d hd=>by
       subst hd
       exact⟨by simp [SN5],⟨zF c,⟨⟨rfl,rfl⟩,trivial⟩,⟨rfl,trivial⟩,trivial⟩,by kernel_rfl,Nat.zero_le _⟩
      refine⟨(c.p,64),⟨by simp,by simp,trivial,hp0,hp1,(by simp only; omega),(by simp only; omega)⟩,⟨_,rfl⟩,?_⟩
      rintro _ rfl
      refine⟨c.days,fun _=>⟨by simp [zb],by omega⟩,⟨_,fun _=>rfl⟩,fun n hn=> ?_⟩
      refine⟨fun h1=> ?_,fun h1=> ?_⟩
      ·refine⟨(c.p,64),⟨by simp,by simp,trivial,hp0,hp1,(by simp only; omega),(by simp only; omega)⟩,⟨_,rfl⟩,?_⟩
       rintro _ rfl
       rw [if_pos trivial]
       refine⟨(),leaf _ ?_⟩
       unfold Nd.list
       simp only at hn ⊢
       revert hn
       cases bitB c.p 64<;>simp [Bool.cond_eq_ite]
      ·rw [if_pos trivial]
       refine⟨(),leaf _ ?_⟩
       unfold Nd.list
       simp only at hn h1 ⊢
       revert hn h1
       cases bitB c.p 64<;>simp [Bool.cond_eq_ite]
       intro h2 h3
       rw [← h2,h3]
       rfl
     ·rintro⟨⟩
      show zE none Tryz.prog Tryz.f63 O 0 w0 [] _ _ LN5 _
      obtain⟨d,ed⟩:∃ d,Nd.list c=d:=⟨_,rfl⟩
      rw [ed]
      refine zc.run hmix uG [1,4,7,8,9] 400 (T:=.leaf (.ret [.bool (bif bif bif a then b else false then d else false then decide ((↑c.sub.length:Int)=m) else false)] [.box (Con.zj c),.box [.int .i64 (Con.p c)],.box [.fn 112 [] [.ptr 1 0]]])) (by kernel_rfl) ?_
      simp only [Tree.holds,zd,inR,lo,hi,Int.toNat_natCast]
      have hr:c.kZ=(bif bif bif a then b else false then d else false then decide ((c.sub.length:Int)=m) else false):=by
       rw [Bool.eq_iff_iff,J9 hk,ea,em,eb,ed]
       cases a<;>cases b<;>cases d<;>simp [hw]
      rw [hr] at hq
      exact RetR.scal hq rfl (by simp [resV])
end Go.Proofs.Tryz
end
section
set_option maxRecDepth 100000
open Go Go.Sx Go.Proofs Go.Nov
namespace Go.Proofs.Tryz
attribute [local simp] eqKV eqA eqA0 eqH eqB eqL eqL0
end Go.Proofs.Tryz
end
section
namespace Go.Sx
variable [Stat]
section
variable {O:Nat→Prop} {pin:Nat} {w0:World} {σ0:List SE} {P:Program} {fn:Func}
def noH(n:Nat):Heap:=.box [.ptr n 0]::List.replicate (n - 1) (.box [])
theorem YT{n:Nat}(h:1≤n):(noH n).length=n:=by simp [noH]; omega
theorem zax(n:Nat):∀ b∈noH n,alive b:=by
 intro b hb
 unfold noH at hb
 rcases List.mem_cons.1 hb with rfl | hb
 ·trivial
 ·rw [List.eq_of_mem_replicate hb]; trivial
theorem zc.never{M:Option Nat}{Hs:Nat→KV→Heap→Prop}{R:List AV→Heap→Prop}{k:List Item}{kv:KV}{n:Nat}(hn:1≤n):zE M P fn O pin w0 σ0 Hs R k (mk fn.ntmps kv (noH n)):=by
 intro w σ a hm
 have hl:σ.length=n:=by rw [hm.hp.len]; exact YT hn
 have h0:σ[0]?=some (σ[0]'(by omega)):=List.getElem?_eq_getElem _
 have hb:=hm.hp.blk 0 _ (.box [.ptr n 0]) h0 rfl
 simp only [BRep] at hb
 obtain⟨ad,vs,el,_,_,_,q⟩:=hb
 simp only [RepL,Rep] at q
 obtain⟨v,r,_,⟨e,ad',he,_⟩,_⟩:=q
 have:=(List.getElem?_eq_some_iff.1 he).1
 omega
open Classical in
theorem zc.zjh{α:Type}{Hs:Nat→KV→Heap→Prop}{R:List AV→Heap→Prop}{k:List Item}{c:Code}{kv:KV}{h:Heap}{tg tp td t n gf:Nat}{cap:List AV}{zs:List AV}(I:List α→Prop)(hc:Wy c tg tp td t=true)(hz:zeroCells P t=some zs)(hn:zX P t=some n)(hzl:zs.length=n)
  (he:∀ args w,(callFunc gf args).run P w = .ok (.enter gf args) w) (av:α→AV) (cs:α→List AV) (hcs:∀ x,cellsOf (av x)=some (cs x)∧(cs x).length=n∧(cs x).all oneA=true∧(cs x).all V9=true) (H Hx:List α→Heap) (X S Sp:List α→Prop) (N pinR:Nat)
  (hg:look kv tg = .fn gf [] cap) (htg:tg<fn.ntmps) (htp:tp<fn.ntmps) (htd:td<fn.ntmps) (hne:td≠tp) (hle:LeK pin fn.ntmps kv h kv (H [])) (hlow:(pk fn.ntmps kv).all (lowB pinR)=true) (hpin:pin≤pinR) (hpos:1≤pinR) (hI:I []) (hlen:∀ pre,(H pre).length=pinR)
  (halive:∀ pre,∀ b∈H pre,alive b) (halivex:∀ pre,∀ b∈Hx pre,alive b)
  (iter:∀ w σ a,Mod O pin w0 σ0 w σ (mk fn.ntmps kv (H [])) a→∀ vb,RepL (Own O σ) w cap σ vb→∃ ev:α→Value,SeqStopsK Fence.wide 0 P gf vb.toArray (fun x=> #[ev x]) (qZ (Own O σ)) S Sp N w∧∀ x,Rep (Own O σ) w (av x) [] (ev x))
  (round:∀ l pre x,I pre→pre.length<N→∀ (W:World) (σ1:List SE),zE (some l) P (bare fn) O pinR W σ1 (fun d kv' h'=>I (pre++[x])∧LeK pinR fn.ntmps [] h' [] (H (pre++[x]))) (fun _ h'=>X (pre++[x])∧LeK pinR fn.ntmps [] h' [] (Hx (pre++[x]))) [.code (kY c),.inLoop] (mk fn.ntmps ((td,.iptr n fun o=>(cs x).getD o .undef)::(tp,av x)::kv) (H pre)))
  (done:∀ xs,S xs→I xs→zc P fn O pin w0 σ0 Hs R k (mk fn.ntmps kv (H xs)))
  (stop:∀ pre,Sp pre→X pre→(resX P (mk fn.ntmps kv (Hx pre)) fn.results.toList).holds fun rs=>R rs (Hx pre)) :
  zc P fn O pin w0 σ0 Hs R (.code c::k) (mk fn.ntmps kv h):=by
 refine zc.zdh hc hz hn hzl he av cs hcs (fun pre=>if I pre then H pre else noH pinR) Hx X S Sp N pinR hg htg htp htd hne (by rw [if_pos hI]; exact hle) hlow hpin (fun pre=> ?_) (fun pre=> ?_) halivex ?_ ?_ ?_ stop
 ·split
  ·exact hlen pre
  ·exact YT hpos
 ·split
  ·exact halive pre
  ·exact zax _
 ·rw [if_pos hI]; exact iter
 ·intro l pre x hl W σ1
  by_cases h1:I pre
  ·simp only [if_pos h1]
   intro w σ a hm
   refine Q5 ?_ (round l pre x h1 hl W σ1 w σ a hm)
   rintro d a' w' ⟨st,σ',⟨kv',h',⟨h2,h3⟩,rfl⟩,hm'⟩
   exact⟨_,σ',⟨kv',h',by rw [if_pos h2]; exact h3,rfl⟩,hm'⟩
  ·simp only [if_neg h1]
   exact zc.never (fn:=bare fn) hpos
 ·intro xs hs
  by_cases h1:I xs
  ·simp only [if_pos h1]; exact done xs hs h1
  ·simp only [if_neg h1]; exact zc.never hpos
end
end Go.Sx
end
section
set_option maxRecDepth 100000
open Go Go.Sx Go.Proofs Go.Nov
namespace Go.Proofs.Tryz
attribute [local simp] eqKV eqA eqA0 eqH eqB eqL eqL0
noncomputable def K22:List Go.Sx.Item:=[.code (Tryz.f22.body.getD .skip)]
def WK:Ctr:=ctrP true (fun c:Con=>[c.conA]) (fun c=>c.big<2^40∧c.nodes≤1000000) (fun c r=>r=c.errC) (fun _ (r:Int)=>(.int .i64 r,[]))
noncomputable def GCkk:Nat→Option Ctr:=fun f=>if f=60 then some (zcf) else if f=61 then some (JF) else if f=62 then some (Yq) else if f=63 then some (zdx) else none
theorem Vf:∀ g c,GCkk g=some c→zf Tryz.prog g c:=okIf zfc (okIf zay (okIf V0 (okIf zg4 (zx))))
def HCk(c:Con)(m:Int):Heap:=[.box c.zj,.box [.int .i64 m],.box c.zj]
theorem UT:zf Tryz.prog 22 WK:=by
 refine zi (fn:=Tryz.f22) (c:=Tryz.f22.body.getD .skip) rfl rfl rfl fun c hc O w0 Q hq=> ?_
 obtain⟨h1,h2⟩:=hc
 replace hq:=hq _ rfl
 refine zc.run hmix Vf [2,13,14] 400 (T:=.ex (fun(x:Con)=>eqL [(Con.conA c)] [(Con.conA x)]∧Con.big x<1099511627776∧Con.nodes x≤1000000) fun n=>.all (fun(r:Nat)=>r=Con.size n) fun n=>.ex (fun(x:Con)=>decide ((500:Int)<n)=false→eqL [(Con.conA c)] [(Con.conA x)]∧Con.big x<1099511627776) fun n_1=>.all (fun(x:Nat)=>decide ((500:Int)<n)=false→x=Con.depth n_1) fun n_2=>.ite (bif decide ((500:Int)<n) then true else decide ((60:Int)<n_2)) (.leaf (.ret [.int .i64 4] [.box (Con.zj c),.box [.int .i64 4]])) (.ex (fun(x:Con)=>eqL [(Con.conA c)] [(Con.conA x)]∧eqH [] []∧0=0∧True) fun n=>.all (fun(x:Unit)=>True) fun n_3=>.leaf (.range (Prod.fst (rfs K22 0)) (Prod.snd (rfs K22 0)) [(2,.ptr 1 0),(13,.fn 110 [] [.ptr 2 0]),(14,.undef)] [.box (Con.zj c),.box [.int .i64 0],.box (Con.zj n)]))) (by kernel_rfl) ?_
 simp only [Tree.holds,zd]
 have hq1:(500<c.size∨60<c.depth)→Q (.int .i64 4,[]):=fun h=>by unfold Con.errC at hq; rw [if_pos h] at hq; exact hq
 have hq2:¬ (500<c.size∨60<c.depth)→Q (.int .i64 (if c.form=true then 0 else 8),[]):=fun h=>by unfold Con.errC at hq; rw [if_neg h] at hq; exact hq
 refine⟨c,⟨⟨vu c,trivial⟩,h1,h2⟩,⟨_,rfl⟩,?_⟩
 rintro _ rfl
 refine⟨c,fun _=>⟨⟨vu c,trivial⟩,h1⟩,⟨_,fun _=>rfl⟩,fun n hn=> ?_⟩
 have key:(bif decide (500<(c.size:Int)) then true else decide (60<(n:Int)))=decide (500<c.size∨60<c.depth):=by
  by_cases g:500<c.size
  ·simp [g]; omega
  ·rw [hn (decide_eq_false (by omega)),Bool.eq_iff_iff]; simp [g]; omega
 rw [key]
 refine⟨fun h=>RetR.scal (hq1 (of_decide_eq_true h)) rfl (by simp [resV]),fun h=>⟨c,⟨⟨vu c,trivial⟩,trivial,trivial,trivial⟩,⟨(),trivial⟩,fun _ _=> ?_⟩⟩
 have hq2:=hq2 (of_decide_eq_false h)
 clear hq hq1
 refine zc.zjh (fun pre:List Nat=>∀ i∈pre,(c.all.getD i c).kZ=true) (tg:=13) (tp:=14) (td:=3) (t:=31) (n:=12) (zs:=[.int .u8 0,.str [],.str [],.str [],.int .u8 0,.str [],.str [],.int .i64 0,.nils,.int .i64 0,.nils,.nils]) (cap:=[.ptr 2 0]) (gf:=110) (by kernel_rfl) (by kernel_rfl) (by kernel_rfl) rfl (enters_of Tryz.func110 (by kernel_rfl) rfl) (fun i:Nat=>(c.all.getD i c).conA) (fun i=>(c.all.getD i c).zj) (fun i=>⟨rfl,rfl,rfl,rfl⟩) (fun _=>HCk c 0) (fun _=>HCk c 8) (fun pre=>¬ c.form=true) (fun xs=>xs=List.range c.all.length) (fun pre=>pre <+: List.range c.all.length) c.all.length 3
  (by kernel_rfl) (by decide +kernel) (by decide +kernel) (by decide +kernel) (by decide) ⟨by simp,⟨zF c,⟨⟨rfl,rfl⟩,trivial⟩,zF c,trivial⟩,by kernel_rfl,Nat.zero_le _⟩ (by kernel_rfl) (Nat.zero_le _) (by decide) (fun i hi=>by cases hi) (fun pre=>rfl) (fun pre=>by simp [HCk,alive]) (fun pre b hb=>by simp [HCk] at hb; rcases hb with rfl | rfl | rfl<;>trivial) ?_ ?_ ?_ ?_
 ·intro w σ a hm vb hvb
  exact ZU hm (i:=2) rfl h2 hvb
 ·intro l pre i hI hlen W σ1
  have hwt:(c.all.getD i c).big≤c.big∧(c.all.getD i c)∈c.all:=by
   by_cases hi:i<c.all.length
   ·have:(c.all.getD i c)∈c.all:=by simp [List.getD,hi]
    exact⟨Con.Zz c _ this,this⟩
   ·have:c.all.getD i c=c:=by simp [List.getD,hi]
    rw [this]
    exact⟨Nat.le_refl _,by rw [Con.all_eq]; simp⟩
  obtain⟨e,he⟩:∃ e,c.all.getD i c=e:=⟨_,rfl⟩
  rw [he] at hwt ⊢
  refine zc.run hmix Vf [2,13,14] 400 (T:=.ex (fun(x:Con)=>eqL [(Con.conA e)] [(Con.conA x)]∧Con.big x<1099511627776) fun n=>.all (fun(r:Bool)=>r=Con.kZ n) fun n=>.ite (!n) (.leaf (.ret [] [.box (Con.zj c),.box [.int .i64 8],.box (Con.zj c)])) (.leaf (.back 0 [(2,.ptr 1 0),(13,.fn 110 [] [.ptr 2 0]),(14,(Con.conA e))] [.box (Con.zj c),.box [.int .i64 0],.box (Con.zj c)]))) (by kernel_rfl) ?_
  simp only [Tree.holds,zd,inR,lo,hi,Int.toNat_natCast]
  refine⟨e,⟨⟨vu e,trivial⟩,by omega⟩,⟨_,rfl⟩,?_⟩
  rintro _ rfl
  refine⟨fun h=>⟨fun hf=> ?_,?_⟩,fun h=>⟨fun j hj=> ?_,?_⟩⟩
  ·rw [Con.QX,List.all_eq_true] at hf
   have:=hf e hwt.2
   simp [this] at h
  ·exact⟨trivial,⟨zF c,⟨⟨rfl,rfl⟩,trivial⟩,zF c,trivial⟩,by kernel_rfl,Nat.le_refl _⟩
  ·rcases List.mem_append.1 hj with hj | hj
   ·exact hI j hj
   ·rw [List.mem_singleton.1 hj,he]; simpa using h
  ·exact⟨trivial,⟨zF c,⟨⟨rfl,rfl⟩,trivial⟩,zF c,trivial⟩,by kernel_rfl,Nat.le_refl _⟩
 ·intro xs hxs hI
  have hform:c.form=true:=by
   rw [Con.QX,List.all_eq_true]
   intro e hem
   obtain⟨j,hj,rfl⟩:=List.getElem_of_mem hem
   have:=hI j (by rw [hxs]; simpa using hj)
   simpa [List.getD,hj] using this
  rw [if_pos hform] at hq2
  refine zc.run hmix Vf [2,13,14] 400 (T:=.leaf (.ret [.int .i64 0] [.box (Con.zj c),.box [.int .i64 0],.box (Con.zj c)])) (by kernel_rfl) ?_
  simp only [Tree.holds,zd]
  exact RetR.scal hq2 rfl (by simp [resV])
 ·intro pre hpre hX
  rw [if_neg hX] at hq2
  exact(RetR.scal hq2 rfl (by simp [resV]):RetR WK 0 Q [.int .i64 8] (HCk c 8))
end Go.Proofs.Tryz
end
section
namespace Go.Nov
open Go.Sx
theorem Fx.JN(x:Fx){j o:Nat}(hj:j<1)(ho:o<3):zg (zh 3 [.str x.name,.int .i64 x.date,.str x.value]) 0 j o=x.cell o:=by
 have:j=0:=by omega
 subst this
 rcases o with _ | _ | _ | o
 ·rfl
 ·rfl
 ·rfl
 ·omega
theorem Ch.JN(x:Ch){j o:Nat}(hj:j<1)(ho:o<4):zg (zh 4 [.str x.jL,.str x.name,.int .i64 x.date,.bool x.first]) 0 j o=x.cell o:=by
 have:j=0:=by omega
 subst this
 rcases o with _ | _ | _ | _ | o
 ·rfl
 ·rfl
 ·rfl
 ·rfl
 ·omega
theorem za2{α:Type}(l:List α)(x z:α)(j:Nat):(l++[x]).getD j z=if j<l.length then l.getD j z else if j=l.length then x else z:=by
 simp only [List.getD,List.getElem?_append]
 split
 ·rfl
 ·rename_i h
  split
  ·rename_i h2; subst h2; simp
  ·rename_i h2
   have:j - l.length≠0:=by omega
   obtain⟨k,hk⟩:=Nat.exists_eq_succ_of_ne_zero this
   rw [hk]; simp
theorem Zu{l:List Fx}{x:Fx}{g:Nat→Nat→AV}(hg:eqG l.length 3 g (fxG l)):eqG (l.length+1) 3 (appG l.length g (zg (zh 3 [.str x.name,.int .i64 x.date,.str x.value]) 0)) (fxG (l++[x])):=by
 intro j o hj ho
 simp only [appG,fxG,za2]
 split
 ·rename_i h; exact hg j o h ho
 ·rename_i h
  have:j=l.length:=by omega
  subst this
  rw [if_pos rfl,Fx.JN x (by omega) ho]
theorem Qu(n sz:Nat)(g g':Nat→Nat→AV):eqG (0+n) sz (appG 0 g g') g':=by
 intro j o _ _
 simp [appG]
theorem Wl(n sz:Nat)(g:Nat→Nat→AV):eqG n sz (zg g 0) g:=by
 intro j o _ _
 simp [zg]
theorem YD(l:List Fx)(j o:Nat)(ho:o<3):qc (fxG l j o)=true:=by
 simp only [fxG]
 rcases o with _ | _ | _ | o
 ·rfl
 ·rfl
 ·rfl
 ·omega
theorem Up(l:List Ch)(j o:Nat)(ho:o<4):qc (chG l j o)=true:=by
 simp only [chG]
 rcases o with _ | _ | _ | _ | o
 ·rfl
 ·rfl
 ·rfl
 ·rfl
 ·omega
end Go.Nov
end
section
set_option maxRecDepth 100000
open Go Go.Sx Go.Proofs Go.Nov
namespace Go.Proofs.Tryz
attribute [local simp] eqKV eqA eqA0 eqH eqB eqL eqL0
theorem zaj(n sz:Nat)(g g':Nat→Nat→AV):eqG (0+n) sz (appG 0 g g') g':=Qu n sz g g'
def YS:Ctr:=ctrP false (fun l:List Int=>[Con.dayS l]) (fun l=>l.length<2^40) (fun _ (_:Unit)=>True) (fun l _=>(.osl 0 1 0 l.length,[.arr l.length 1 (Con.dayG l)]))
theorem za7:zf Tryz.prog 42 YS:=by
 refine Z7 (fn:=Tryz.f42) (c:=Tryz.f42.body.getD .skip) rfl rfl rfl fun l hl O w0 Q hq=> ?_
 replace hq:=hq () trivial
 refine zc.run hmix zD [] 400 (T:=.all (fun(b:Bool)=>0<l.length→b=false) fun n=>.ite n (.leaf (.ret [.nils] [])) (.side (0=0∧0≤0∧(0+l.length)*8≤140737488355328) (.leaf (.ret [.osl 0 1 0 (0+l.length)] [.arr (0+l.length) 1 (appG 0 (zh 1 []) (Con.dayG l))])))) (by kernel_rfl) ?_
 simp only [Tree.holds,zd]
 refine⟨⟨false,fun _=>rfl⟩,fun b hb=>⟨fun h=> ?_,fun h=>⟨⟨trivial,Nat.le_refl _,by omega⟩,fun _=> ?_⟩⟩⟩
 ·have h0:l=[]:=by
   rcases Nat.eq_zero_or_pos l.length with h0 | h0
   ·exact List.length_eq_zero_iff.1 h0
   ·rw [hb h0] at h; cases h
  subst h0
  refine RetR.scal (.inr ⟨.osl 0 1 0 0,[(1,Con.dayG [])],by simp [upA2,upA1,upA0],?_⟩) (r:=.nils) rfl (by simp [resV])
  exact hq
 ·refine RetR.outs [0] rfl rfl (.inl hq) (fun h=>by cases h) ?_ ?_ rfl
  ·simp [resV,exp2,exp1,exp0,z5,eqA2,eqL1]
  ·exact⟨⟨by omega,rfl,zaj _ _ _ _⟩,trivial⟩
theorem zan{s:List Con}{i:Nat} : eqG (i+1) 12 (appG i (Con.conG s) (zg (zh 12 [.int .u8 (s.getD i Con.nil).kind,.str (s.getD i Con.nil).src,.str (s.getD i Con.nil).dst,.str (s.getD i Con.nil).name,.int .u8 (s.getD i Con.nil).x.kind,.str (s.getD i Con.nil).x.rat,.str (s.getD i Con.nil).x.name,.int .i64 (s.getD i Con.nil).x.date,.sl (s.getD i Con.nil).x.sub.length 5 (Ex.exG (s.getD i Con.nil).x.sub),.int .i64 (s.getD i Con.nil).date,.sl (s.getD i Con.nil).days.length 1 (Con.dayG (s.getD i Con.nil).days),.sl (s.getD i Con.nil).sub.length 12 (s.getD i Con.nil).deep]) 0)) (Con.conG s):=by
 intro j o hj ho
 simp only [appG,zg,zh]
 by_cases h:j<i
 ·rw [if_pos h]
 ·have:j=i:=by omega
  subst this
  rw [if_neg h]
  have e:j - j=0:=by omega
  match o,ho with
  | 0,_=>simp [e,Con.conG,Con.cell]
  | 1,_=>simp [e,Con.conG,Con.cell]
  | 2,_=>simp [e,Con.conG,Con.cell]
  | 3,_=>simp [e,Con.conG,Con.cell]
  | 4,_=>simp [e,Con.conG,Con.cell]
  | 5,_=>simp [e,Con.conG,Con.cell]
  | 6,_=>simp [e,Con.conG,Con.cell]
  | 7,_=>simp [e,Con.conG,Con.cell]
  | 8,_=>simp [e,Con.conG,Con.cell]
  | 9,_=>simp [e,Con.conG,Con.cell]
  | 10,_=>simp [e,Con.conG,Con.cell]
  | 11,_=>simp [e,Con.conG,Con.cell]
theorem vL(n sz:Nat)(g:Nat→Nat→AV):eqG n sz (zg g 0) g:=fun j o _ _=>by simp [zg]
end Go.Proofs.Tryz
end
section
namespace Go.Sx
variable [Stat]
variable {P:Program} {fn:Func} {Xp:List PanicEntry→Prop}
theorem zf.frozen{X R:Type}{inp:X→List AV}{pre:X→Prop}{post:X→R→Prop}{out:X→R→AV×Heap}{out':X→R→AV}{g:Nat}(h:zf P g (ctrP true inp pre post out))
  (hn:∀ x r,pre x→post x r→new2 (out x r).2 [] (out x r).1) (he:∀ x r,pre x→post x r→LeA (exp2 (out x r).2 [] (out x r).1) (out' x r)):zf P g (ctrP true inp pre post fun x r=>(out' x r,[])):=by
 intro args hc Q hq hfr
 have hc0:=hfr rfl
 subst hc0
 simp only [ctrP] at hq
 obtain⟨x,⟨h1,h2⟩,h3,h4⟩:=hq
 have k:=h args [] (fun p=>∃ r,post x r∧p=out x r) (by simp only [ctrP]; exact⟨x,⟨h1,h2⟩,h3,fun r hr=>⟨r,hr,rfl⟩⟩) (fun _=>rfl)
 intro O w σ vals hg hh hr
 have hσ:σ=[]:=List.length_eq_zero_iff.1 (by simpa using hh.len)
 subst hσ
 refine yM.mono ?_ (k O w [] vals hg hh hr)
 rintro v w' ⟨a,hs,σ',⟨r,hr,e⟩,g1,g2,g3,g4,g5,g6⟩
 have ea:a=(out x r).1:=by rw [← e]
 have eh:hs=(out x r).2:=by rw [← e]
 have sub:∀ b,Own O σ' b→(Own O σ' b∨((ctrP true inp pre post out).fresh=true∧b<w.heap.size)):=fun b hb=>.inl hb
 have hnew:∀ b,Mine σ' b→w.heap.size≤b:=fun b hb=>by
  rcases g6.grow b hb with hx | hx
  ·obtain⟨_,he,_⟩:=hx; simp at he
  ·exact hx
 have XX:Exp O w' σ' hs [] [] (fun b=>Own O [] b∨((ctrP true inp pre post fun x r=>(out' x r,([]:Heap))).fresh=true∧b<w.heap.size)):=
  ⟨g3,⟨g2.len,g2.inj,g2.lt,fun i e b he hb=>QJ sub (g2.blk i e b he hb)⟩,rfl,by simp,fun j=>by simp,fun b hb=>by
   rcases hb with hb | ⟨_,hb⟩
   ·exact .inl hb
   ·exact .inr fun hm=>by have:=hnew b hm; omega⟩
 refine⟨out' x r,[],[],h4 r hr,he x r h2 hr _ _ _ _ ?_,⟨rfl,fun i j e f a b he=>by simp at he,fun i e a he=>by simp at he,fun i e b he=>by simp at he⟩,⟨g3.old,fun i e ad he=>by simp at he,g3.stat.own fun b hb=>by
  rcases hb with hb | ⟨e,he,_⟩
  ·exact .inl hb
  ·simp at he⟩,Nat.le_refl _,fun i e he=>by simp at he,⟨g6.os,g6.tape,g6.output,g6.size,fun b hb hno=>g6.keep b hb hno,fun b hb=>by obtain⟨_,he,_⟩:=hb; simp at he⟩⟩
 rw [← ea,← eh]
 exact QV XX (.inr (by rw [ea,eh]; exact hn x r h2 hr)) (w9 sub g1)
end Go.Sx
end
section
namespace Go.Nov
def sumS(m:Bool)(x:Nat)(n:Bool)(y:Nat):Bool×Nat:=if m=n then(m,x+y) else if y≤x then(m,x - y) else(n,y - x)
def addI(s t:List UInt8):List UInt8×Int:=if z8 s t=0 then wr (sumS (negI s) (numI s) (negI t) (numI t)).1 (sumS (negI s) (numI s) (negI t) (numI t)).2 else([],z8 s t)
def subI(s t:List UInt8):List UInt8×Int:=if z8 s t=0 then wr (sumS (negI s) (numI s) (!negI t) (numI t)).1 (sumS (negI s) (numI s) (!negI t) (numI t)).2 else([],z8 s t)
def mulI(s t:List UInt8):List UInt8×Int:=if z8 s t=0 then wr (negI s != negI t) (numI s*numI t) else([],z8 s t)
def cmpZ(m:Bool)(x:Nat)(n:Bool)(y:Nat):Int:=if m=true∧n=false then -1 else if n=true∧m=false then 1 else if m=true then cmpN y x else cmpN x y
def Zi(s t:List UInt8):Int×Int:=if z8 s t=0 then(cmpZ (negI s) (numI s) (negI t) (numI t),0) else(0,z8 s t)
theorem Zr{d:Nat}(h:d<10):(byt d).toNat=48+d:=by
 unfold byt
 rw [UInt8.toNat_ofNat']
 omega
theorem yo{x:Nat}(h:x≠0):txt x=((dec x).map byt).reverse:=if_neg h
theorem Z0{x:Nat}(h:x≠0):(txt x).length=(dec x).length:=by rw [yo h]; simp
theorem UC{x:Nat}(h:x≠0):allD (txt x):=by
 intro c hc
 rw [yo h] at hc
 simp only [List.mem_reverse,List.mem_map] at hc
 obtain⟨d,hd,rfl⟩:=hc
 have:d<10:=Ten.zk x d hd
 rw [Zr this]
 omega
theorem zjd{x:Nat}(h:x≠0):dg (txt x)=dec x:=by
 rw [yo h,dg,List.map_reverse,List.reverse_reverse,List.map_map]
 conv=>rhs; rw [← List.map_id (dec x)]
 refine List.map_congr_left fun d hd=> ?_
 have:d<10:=Ten.zk x d hd
 simp only [Function.comp,Zr this,id]
 omega
theorem zh7{x:Nat}(h:x≠0):numD (txt x)=x:=by
 rw [← XU,zjd h]
 exact Ten.zn x
theorem JV{x:Nat}(h:x≠0):(txt x).getD 0 0≠48∧(txt x).getD 0 0≠45:=by
 have hl:=Vb h
 have ht:=U3 hl
 have hlt:=dec_lt x ((dec x).length - 1)
 have e:(txt x).getD 0 0=byt ((dec x).getD ((dec x).length - 1) 0):=by
  rw [yo h]
  simp only [List.getD_eq_getElem?_getD]
  rw [List.getElem?_reverse (by simpa using hl)]
  simp [List.getElem?_eq_getElem (show(dec x).length - 1<(dec x).length by omega)]
 rw [e]
 have hb:=Zr hlt
 constructor
 ·intro h2
  rw [h2] at hb
  have:(48:UInt8).toNat=48:=rfl
  omega
 ·intro h2
  rw [h2] at hb
  have:(45:UInt8).toNat=45:=rfl
  omega
theorem zc4{x:Nat}(h:x≠0):txt x≠[]:=by
 intro h2
 have:=Z0 h
 rw [h2] at this
 have:=Vb h
 simp at *; omega
theorem zab{x:Nat}(h:x≠0)(neg:Bool):parse (sgn neg (txt x))=(neg,txt x):=by
 cases neg with
 | true=>rfl
 | false=>
  simp only [sgn,Bool.false_eq_true,if_false]
  have h1:=(JV h).2
  cases ht:txt x with
  | nil=>exact absurd ht (zc4 h)
  | cons c b=>
   rw [ht] at h1
   have:c≠45:=h1
   simp [parse,this]
theorem zdn{x:Nat}(h:x≠0)(neg:Bool):jW neg (txt x)=true:=by
 have h1:=(JV h).1
 have h2:txt x≠[48]:=by
  intro h2
  rw [h2] at h1
  exact h1 rfl
 have h3:=zc4 h
 have h4:(txt x).all isD=true:=U6.2 (UC h)
 simp only [List.getD_eq_getElem?_getD] at h1
 simp [jW,h3,h2,h1,h4]
theorem Qx{neg:Bool}{x:Nat}(h:(wr neg x).2=0):errI (wr neg x).1=0∧numI (wr neg x).1=x∧negI (wr neg x).1=(neg&&decide (x≠0)):=by
 unfold wr at h ⊢
 by_cases h0:x=0
 ·subst h0
  simp only [if_true]
  refine⟨rfl,rfl,?_⟩
  simp [negI,parse]
 ·rw [if_neg h0] at h ⊢
  by_cases h1:1000<(dec x).length
  ·rw [if_pos h1] at h; cases h
  ·rw [if_neg h1]
   simp only [errI,numI,negI,zab h0,zdn h0,if_true]
   rw [Z0 h0,if_neg h1]
   exact⟨rfl,zh7 h0,by simp [h0]⟩
theorem zfb(neg:Bool)(x:Nat):(wr neg x).2=0∨wr neg x=([],14):=by
 unfold wr
 split
 ·exact .inl rfl
 ·split
  ·exact .inr rfl
  ·exact .inl rfl
theorem zgr(neg:Bool)(b:List UInt8):(sgn neg b).length≤b.length+1:=by
 unfold sgn; split<;>simp
theorem vB(neg:Bool)(x:Nat):(wr neg x).1.length≤1001:=by
 unfold wr
 split
 ·simp
 ·rename_i h0
  split
  ·simp
  ·rename_i h1
   have:=zgr neg (txt x)
   rw [Z0 h0] at this
   simp only
   omega
theorem zd0(s t:List UInt8):(addI s t).1.length≤1001:=by
 unfold addI
 split
 ·exact vB _ _
 ·simp
theorem zcu(s t:List UInt8):(subI s t).1.length≤1001:=by
 unfold subI
 split
 ·exact vB _ _
 ·simp
theorem zfd(s t:List UInt8):(mulI s t).1.length≤1001:=by
 unfold mulI
 split
 ·exact vB _ _
 ·simp
theorem zgs(b:Bool)(x:Nat):wr (b&&decide (0<x)) x=wr b x:=by
 unfold wr
 by_cases h:x=0
 ·rw [if_pos h,if_pos h]
 ·rw [if_neg h,if_neg h]
  have:decide (0<x)=true:=decide_eq_true (Nat.pos_of_ne_zero h)
  rw [this,Bool.and_true]
theorem zgn(m:Bool)(x:Nat)(n:Bool)(y:Nat):(sumS m x n y).2≤x+y:=by
 unfold sumS
 split
 ·exact Nat.le_refl _
 ·split
  ·simp only; omega
  ·simp only; omega
end Go.Nov
end
