/- Part 7 of the proof. -/
import Derived.Test.YtpnllbdffdpoaaaGreatDoorSxa
import Derived.Test.YtpnllbdffdpoaaaGreatDoorSxf
import Derived.Lib.Strings
import Derived.Lib.Slices
import Derived.Lib.Walk
import Derived.Lib.Bytealg
import Derived.Test.YtpnllbdffdpoaaaGreatDoorProg
set_option linter.unusedVariables false
set_option linter.unusedSimpArgs false
set_option linter.unusedSectionVars false
section
set_option maxRecDepth 100000
open Go Go.Sx Go.Proofs Go.Nov
namespace Go.Proofs.Tryz
attribute [local simp] eqKV eqA eqA0 eqH eqB eqL eqL0
noncomputable def K140:=Go.Sx.aA f140
def zf9:Ctr:=ctrT false false (λs:L8=>[.str s]) (λ_=>[]) (λ_=>True) (λ_ (_:Unit)=>True) (λs _=>(.fn 173 [] [.ptr 0 0],[.box [.str s]]))
theorem zgt:ze prog 162 zf9:=by
 refine z9 (fn:=f162) (c:=f162.body.getD .skip) rfl rfl rfl (λh=>by cases h) λs hp O w0 I0 Q hl hq=> ?_
 have h0:I0=[]:=aU.1 (by simpa using hl);subst h0;refine zc.n zw [0] (.R [.fn 173 [] [.ptr 0 0]] [.box [.str s]]) ?_;simp only [Tree.holds,zf];exact RetR.out1 0 (by simp) (hq () trivial) (λh=>by cases h) (by simp [resV,exp2,exp1,exp0,zO,ren0,eqA2]) (by simp [expB,exp1,exp0,ren0])
noncomputable def G3:=tb zgt (tb X5 tz)
def KR:KV:=[(2,.ptr 0 0),(3,.ptr 1 0),Z 5,Z 6,(16,.fn 173 [] [.ptr 2 0]),Z 17,Z 19,Z 20]
def HR(neg:Bool)(b:L8):List Nat->Heap
 | []=>[.box [.bool false,.nils],.box [.bool neg,.nils],.box [.str b]]
 | d::o=>[.box [.bool false,.nils],.box [.bool neg,.osl 4 1 0 (o.length+1)],.box [.str b],.arr 1 1 (natG .u32 [d]),.arr (o.length+1) 1 (natG .u32 (d::o))]
theorem zcn(s:ByteArray):∀ e,e<=s.size->val ((chunks s e).map decB)=numD (s.data.toList.take e):=by
 intro e
 induction e using Nat.strongRecOn with
 | _ e ih=>
  intro he;rcases bC e with h | h
  ·subst h; simp [kN,val,numD]
  ·rw [kH s h,List.map_cons,val,ih (e - 9) (by omega) (by omega)];have hl:s.data.toList.length=s.size:=by rw [Array.length_toList]; rfl
   have h1:s.data.toList.take e=s.data.toList.take (e - 9)++(s.data.toList.take e).drop (e - 9):=by
    conv=>lhs; rw [<- bU (e - 9) (s.data.toList.take e)]
    rw [List.take_take,Nat.min_eq_left (by omega)]
   rw [h1,kL,decB,ZX,Nat.add_comm,bJ];congr 1;rcases aR e 9 with h9 | h9
   ·rw [show e - 9=0 by omega]; simp [numD]
   ·congr 1;have:((s.data.toList.take e).drop (e - 9)).length=9:=by simp; omega
    rw [this]
theorem zdb(s:ByteArray)(hd:allD s.data.toList):∀ e,e<=s.size->∀ x∈chunks s e,x.size<=9/\allD x.data.toList:=by
 intro e
 induction e using Nat.strongRecOn with
 | _ e ih=>
  intro he x hx;rcases bC e with h | h
  ·subst h; simp [kN] at hx
  ·rw [kH s h] at hx;rcases aM.1 hx with rfl | hx
   ·refine⟨by rw [ByteArray.size_extract]; omega,?_⟩;rw [ZX];intro c hc;exact hd c (List.mem_of_mem_take (List.mem_of_mem_drop hc))
   ·exact ih (e - 9) (by omega) (by omega) x hx
theorem WT(s:ByteArray):∀ e,(chunks s e).length<=e:=by
 intro e
 induction e using Nat.strongRecOn with
 | _ e ih=>
  rcases bC e with h | h
  ·subst h; simp [kN]
  ·rw [kH s h,aL];have:=ih (e - 9) (by omega);omega
abbrev Grp:Type:={x:ByteArray // x.size<=9/\allD x.data.toList}
def zjg:Ctr:=ctrP false (λp:Bool×L8=>[.str (sgn p.1 p.2)]) (λp=>allD p.2/\p.2≠[]/\p.2.length<=1000000) (λp r=>r=numD p.2) (λp r=>(.agg [.bool p.1,magS r],[]))
def SR(x:L8)(v i:Nat):KV:=[(2,.ptr 0 0),(3,.ptr 1 0),(5,.str x),(6,.int .u32 (v:Int)),Z 16,Z 17,(19,.i (x.length:Int)),(20,.i (i:Int))]
theorem zh1{O:Nat->Prop}{W:World}{E1:List SE}(l:Nat)(neg:Bool)(b:L8)(o:List Nat)(ho:o.length<=1000000)(y:L8)(hxd:allD y)(hx9:y.length<=9)(X:Prop)(Hx:Heap) :
  j4 (some l) prog (bare f140) O 3 W E1 (λd kv' h'=>LeK 3 f140.ntmps [] h' [] (HR neg b (o++[numD y]))) (λ_ h'=>X/\LeK 3 f140.ntmps [] h' [] Hx) (.code (.loop (lps (roundOf K140 0) 0).1)::(lps (roundOf K140 0) 0).2)
   (mk f140.ntmps [(2,.ptr 0 0),(3,.ptr 1 0),(5,.str y),(6,.int .u32 0),(16,.fn 173 [] [.ptr 2 0]),(17,.str y),(19,.i (y.length:Int)),(20,.i 0)] (HR neg b o)):=by
 refine zc.loop (ι:={i:Nat // i<=y.length}) (λi=>SR y (numD (y.take i.1)) i.1) (λ_=>HR neg b o) (λi=>y.length - i.1) ⟨0,aI _⟩ 1 ?_ ?_ (by kernel_rfl)
 ·refine⟨by simp [SR,numD],?_,?_,?_⟩
  ·cases o<;>simp [HR,za]
  ·cases o<;>kernel_rfl
  ·cases o<;>simp [HR]
 ·rintro⟨i,hil⟩
  have hbound:numD (y.take i)<1000000000:=by
   have h1:=uo (l:=y.take i) λc hc=>hxd c (List.mem_of_mem_take hc)
   have h2:10^(y.take i).length<=10^9:=bX (by decide) (by rw [aH]; omega);have h4:(10:Nat)^9=1000000000:=by decide
   omega
  have hnext:∀ h:i<y.length,numD (y.take (i+1))=numD (y.take i)*10+((y.getD i 0).toNat - 48):=by
   intro h; rw [zc1 y i h,zi1]
  have hdig:i<y.length->48<=(y.getD i 0).toNat/\(y.getD i 0).toNat<=57:=by
   intro h;have:=hxd (y.getD i 0) (by simp [List.getD,h]);exact this
  have hnb:i<y.length->numD (y.take (i+1))<1000000000:=by
   intro h;have h1:=uo (l:=y.take (i+1)) λc hc=>hxd c (List.mem_of_mem_take hc)
   have h2:10^(y.take (i+1)).length<=10^9:=bX (by decide) (by rw [aH]; omega);have h4:(10:Nat)^9=1000000000:=by decide
   omega
  obtain⟨v,hv⟩:∃ v,numD (y.take i)=v:=⟨_,rfl⟩;simp only [hv] at hbound hnext ⊢;have ei:((i:Int)+1)=((i+1:Nat):Int):=by omega
  cases o with
  | nil=>
   refine zc.n G3.h [2,3,5,6,16,17,19,20] (let v1:=y.getD (i:Int).toNat (0:UInt8);.D ((i:Int)<y.length) (.side (inR .u32 (v*10)) (.side ((0:Int)<=i/\(i:Int)<y.length) (.side (inR .u8 ((↑(UInt8.toNat v1):Int) - (48:Int))) (.side (inR .u32 ((↑(UInt8.toNat v1):Int) - (48:Int))) (.side (inR .u32 ((v:Int)*(10:Int)+((↑(UInt8.toNat v1):Int) - (48:Int)))) (.S (i+1) (.leaf (.back 1 [(2,.ptr 0 0),(3,.ptr 1 0),(5,.str y),(6,.int .u32 ((v:Int)*(10:Int)+((↑(UInt8.toNat v1):Int) - (48:Int)))),Z 16,Z 17,(19,.i y.length),(20,.i (i+1))] [.box [.bool false,.nils],.box [.bool neg,.nils],.box [.str b]])))))))) (.side (4<=140737488355328) (.leaf (.back 0 [(2,.ptr 0 0),(3,.ptr 1 0),(5,.str y),(6,.int .u32 v),Z 16,Z 17,(19,.i y.length),(20,.i i)] [.box [.bool false,.nils],.box [.bool neg,.osl 4 1 0 1],.box [.str b],.arr 1 1 (zj 1 [.int .u32 v]),.arr 1 1 (zi (zj 1 [.int .u32 v]) 0)])))) ?_;simp only [Tree.holds,zf,inR,lo,hi,aD,ei];refine⟨λhlt=> ?_,λhge=> ?_⟩
   ·have hlt:i<y.length:=by simp at hlt; omega
    have h1:=hdig hlt;have h2:=hnb hlt;have h3:=hnext hlt;generalize (y.getD i 0).toNat=c at h1 h3 ⊢
    iterate 6 refine⟨by omega,λ_=> ?_⟩
    rw [aP trivial];refine⟨⟨i+1,hlt⟩,by show y.length - (i+1)<y.length - i; omega,?_,by simp [HR],by kernel_rfl,by simp [HR]⟩;simp [SR,h3]; omega
   ·have hge:i=y.length:=by simp at hge; omega
    subst hge;rw [bD] at hv;refine⟨by omega,λ_=> ?_⟩;rw [aO (by decide),hv];refine⟨by simp,?_,by kernel_rfl,by simp [HR]⟩;simp only [List.nil_append,HR];refine⟨by simp,by simp,by simp,⟨rfl,rfl,xz _ _⟩,⟨rfl,rfl,?_⟩,trivial⟩;exactλj o hj ho=>by simpa [zi] using xz .u32 v j o hj ho
  | cons d o=>
   refine zc.n G3.h [2,3,5,6,16,17,19,20] (let v1:=y.getD (i:Int).toNat (0:UInt8);.D ((i:Int)<y.length) (.side (inR .u32 (v*10)) (.side ((0:Int)<=i/\(i:Int)<y.length) (.side (inR .u8 ((↑(UInt8.toNat v1):Int) - (48:Int))) (.side (inR .u32 ((↑(UInt8.toNat v1):Int) - (48:Int))) (.side (inR .u32 ((v:Int)*(10:Int)+((↑(UInt8.toNat v1):Int) - (48:Int)))) (.S (i+1) (.leaf (.back 1 [(2,.ptr 0 0),(3,.ptr 1 0),(5,.str y),(6,.int .u32 ((v:Int)*(10:Int)+((↑(UInt8.toNat v1):Int) - (48:Int)))),Z 16,Z 17,(19,.i y.length),(20,.i (i+1))] [.box [.bool false,.nils],.box [.bool neg,.osl 4 1 0 (o.length+1)],.box [.str b],.arr 1 1 (natG .u32 [d]),.arr (o.length+1) 1 (natG .u32 (d::o))])))))))) (.side (0=0/\o.length+1<=o.length+1/\(o.length+1+1)*4<=140737488355328) (.leaf (.back 0 [(2,.ptr 0 0),(3,.ptr 1 0),(5,.str y),(6,.int .u32 v),Z 16,Z 17,(19,.i y.length),(20,.i i)] [.box [.bool false,.nils],.box [.bool neg,.osl 4 1 0 (o.length+1+1)],.box [.str b],.arr 1 1 (natG .u32 [d]),.arr (o.length+1+1) 1 (appG (o.length+1) (natG .u32 (d::o)) (zi (zj 1 [.int .u32 v]) 0)),.arr 1 1 (zj 1 [.int .u32 v])])))) ?_;simp only [Tree.holds,zf,inR,lo,hi,aD,ei];refine⟨λhlt=> ?_,λhge=> ?_⟩
   ·have hlt:i<y.length:=by simp at hlt; omega
    have h1:=hdig hlt;have h2:=hnb hlt;have h3:=hnext hlt;generalize (y.getD i 0).toNat=c at h1 h3 ⊢
    iterate 6 refine⟨by omega,λ_=> ?_⟩
    rw [aP trivial];refine⟨⟨i+1,hlt⟩,by show y.length - (i+1)<y.length - i; omega,?_,by simp [HR,za],by kernel_rfl,by simp [HR]⟩;simp [SR,h3]; omega
   ·have hge:i=y.length:=by simp at hge; omega
    subst hge;rw [bD] at hv;refine⟨⟨trivial,aJ _,by simp only [aL] at ho; omega⟩,λ_=> ?_⟩;rw [aO (by decide),hv];refine⟨by simp,?_,by kernel_rfl,by simp [HR]⟩;simp only [List.cons_append,HR];refine⟨by simp,by simp,by simp,⟨rfl,rfl,za _ _ _⟩,⟨by simp,rfl,?_⟩,trivial⟩;have:=Z9 (k:=.u32) (l:=d::o) (v:=((v:Nat):Int)) (by omega);simpa using this
theorem zd5{O:Nat->Prop}{W:World}{E1:List SE}(l:Nat)(neg:Bool)(b:L8)(o:List Nat)(ho:o.length<=1000000)(x:Grp)(X:Prop)(Hx:Heap) :
  j4 (some l) prog (bare f140) O 3 W E1 (λd kv' h'=>LeK 3 f140.ntmps [] h' [] (HR neg b (o++[decB x.1]))) (λ_ h'=>X/\LeK 3 f140.ntmps [] h' [] Hx) (roundOf K140 0) (mk f140.ntmps ((5,.str x.1.data.toList)::(17,.str x.1.data.toList)::KR) (HR neg b o)):=by
 obtain⟨x,hx9,hxd⟩:=x;simp only;have hxl:x.data.toList.length=x.size:=by rw [Array.length_toList]; rfl
 have hdB:decB x=numD x.data.toList:=rfl;rw [hdB];generalize x.data.toList=y at hxd hxl
 have core:j4 (some l) prog (bare f140) O 3 W E1 (λd kv' h'=>LeK 3 f140.ntmps [] h' [] (HR neg b (o++[numD y]))) (λ_ h'=>X/\LeK 3 f140.ntmps [] h' [] Hx) (.code (.loop (lps (roundOf K140 0) 0).1)::(lps (roundOf K140 0) 0).2)
   (mk f140.ntmps [(2,.ptr 0 0),(3,.ptr 1 0),(5,.str y),(6,.int .u32 0),(16,.fn 173 [] [.ptr 2 0]),(17,.str y),(19,.i (y.length:Int)),(20,.i 0)] (HR neg b o)):=by
  exact zh1 l neg b o ho y hxd (by omega) X Hx
 cases o with
 | nil=>
  refine zc.n G3.h [2,3,5,6,16,17,19,20] (.leaf (.loop (lps (roundOf K140 0) 0).1 (lps (roundOf K140 0) 0).2 [(2,.ptr 0 0),(3,.ptr 1 0),(5,.str y),(6,.int .u32 0),(16,.fn 173 [] [.ptr 2 0]),(17,.str y),(19,.i y.length),(20,.i 0)] [.box [.bool false,.nils],.box [.bool neg,.nils],.box [.str b]])) ?_;simp only [Tree.holds,zf];exact core
 | cons d o=>
  refine zc.n G3.h [2,3,5,6,16,17,19,20] (.leaf (.loop (lps (roundOf K140 0) 0).1 (lps (roundOf K140 0) 0).2 [(2,.ptr 0 0),(3,.ptr 1 0),(5,.str y),(6,.int .u32 0),(16,.fn 173 [] [.ptr 2 0]),(17,.str y),(19,.i y.length),(20,.i 0)] [.box [.bool false,.nils],.box [.bool neg,.osl 4 1 0 (o.length+1)],.box [.str b],.arr 1 1 (natG .u32 [d]),.arr (o.length+1) 1 (natG .u32 (d::o))])) ?_;simp only [Tree.holds,zf];exact core
theorem zne(neg:Bool)(b:L8)(o:List Nat):∀ x∈HR neg b o,alive x:=by
 cases o with
 | nil=>simp [HR,alive]
 | cons d o=>simp [HR,alive]
theorem zhs{O:Nat->Prop}{w0:World}{Q:AV×Heap->Prop}(neg:Bool)(b:L8)(hb:allD b)(hb0:b≠[])(hbl:b.length<=1000000)(hq:Q (.agg [.bool neg,magS (numD b)],[])) :
  zc prog f140 O 0 w0 [] (λ_ _ _=>False) (RetR zjg 0 Q) (.code (rfs K140 0).1::(rfs K140 0).2) (mk f140.ntmps KR (HR neg b [])):=by
 let s:ByteArray:=⟨b.toArray⟩
 have hsl:s.data.toList=b:=rfl;have hss:s.size=b.length:=by simp [s,ByteArray.size]
 refine zc.range (tg:=16) (tp:=17) (td:=5) (α:=Grp) (by kernel_rfl) (cap:=[.ptr 2 0]) (enters_of Tryz.func173 (by kernel_rfl) rfl) (λx=>.str x.1.data.toList) (λpre=>HR neg b (pre.map λx=>decB x.1)) (λ_=>[]) (λ_=>False) (λxs=>xs.map (·.1)=chunks s s.size) (λpre=>pre.map (·.1) <+: chunks s s.size) (chunks s s.size).length 3
  (by kernel_rfl) (by decide +kernel) (by decide +kernel) (λx t c y h=>by cases h) ⟨by simp [KR],by simp [HR],by kernel_rfl,aI _⟩ (by kernel_rfl) (aI _) (λpre=>zne _ _ _) (λpre c hc=>by cases hc) ?_ ?_ ?_ (λ_ _ h=>h.elim)
 ·
  intro w σ a hm vb hvb;simp only [RepL] at hvb;obtain⟨v,r,rfl,hv,rfl⟩:=hvb;simp only [Rep] at hv;obtain⟨e,ad,he,had,rfl⟩:=hv
  have hcell:∀ (W:World) (Z':List SE) (o:List Nat),HRep (Go.Sx.Own O Z') W Z' (HR neg b o)->∀ e' ad,Z'[2]?=some e'->e'.ad=some ad->W.cell? ⟨ad.block,ad.off+0,none⟩=some (.string s):=by
   intro W Z' o hp e' ad he' had';have hb2:(HR neg b o)[2]?=some (.box [.str b]):=by cases o<;>rfl
   obtain⟨ad',vs,el,h1,h2,h3,h4⟩:=hp.blk 2 e' _ he' hb2;rw [had'] at h1; cases h1;simp only [RepL,Rep] at h4;obtain⟨v,r,rfl,rfl,rfl⟩:=h4;simp [World.cell?,h3,h2,s]
  refine⟨λW=>W.cell? ⟨ad.block,ad.off+0,none⟩=some (.string s),λx=>.string x.1,?_,?_,?_⟩
  ·exact Tryz.VG (λx=>x.size<=9/\allD x.data.toList) ⟨ad.block,ad.off+0,none⟩ s (zdb s (hsl▸hb) s.size (aJ _)) (by omega) w (hcell w σ [] hm.hp e ad he had)
  ·intro pre W Z' hM;refine⟨?_,λx=>by simp [Rep]⟩;have ht:=hM.tm 16;have h16:(mk f140.ntmps KR (HR neg b (pre.map λx=>decB x.1))).tmps.getD 16 .undef = .fn 173 [] [.ptr 2 0]:=by kernel_rfl
   have ht0:=hm.tm 16;have h160:(mk f140.ntmps KR (HR neg b (([]:List Grp).map λx=>decB x.1))).tmps.getD 16 .undef = .fn 173 [] [.ptr 2 0]:=by kernel_rfl
   rw [h16] at ht;rw [h160] at ht0;simp only [TRep,Rep,RepL] at ht ht0;obtain⟨va,vb',h1,_,v,r,h2,⟨e1,ad1,h3,h4,h5⟩,h6⟩:=ht;obtain⟨va',vb2,g1,_,v',r',g2,⟨e2,ad2,g3,g4,g5⟩,g6⟩:=ht0;rw [he] at g3; cases g3;rw [had] at g4; cases g4;rw [g1] at h1;simp only [Value.func.injEq] at h1
   have h7:vb2=vb':=by
    have:=h1.2.2;simpa using this
   rw [g2,h2,g5,h5] at h7;simp only [List.cons.injEq,Value.pointer.injEq,aE] at h7;have h8:=hcell W Z' _ hM.hp e1 ad1 h3 h4;rw [<- h7.1] at h8;exact h8
  ·intro W l o o' hl ho hoc hK;exact zat (grownBy_putObj' W l o') (λr e=>by cases e; exact⟨o,ho,hoc⟩) hK
 ·
  intro l pre x hlen W E1
  have hpl:(pre.map λx=>decB x.1).length<=1000000:=by
   have:=WT s s.size;simp; omega
  have:=zd5 (O:=O) (W:=W) (E1:=E1) l neg b (pre.map λx=>decB x.1) hpl x False [];simp only [List.map_append,List.map_cons,List.map_nil];exact this
 ·
  intro xs hxs;have ho:xs.map (λx=>decB x.1)=(chunks s s.size).map decB:=by rw [<- hxs,List.map_map]; rfl
  have hv:val (xs.map λx=>decB x.1)=numD b:=by
   rw [ho,zcn s s.size (aJ _),bF (by rw [Array.length_toList]; exact aJ _)]
  have hdg:dig (xs.map λx=>decB x.1):=by
   intro d hd;obtain⟨x,_,rfl⟩:=List.mem_map.1 hd;exact zr2 x.2.2 x.2.1
  have hpos:0<s.size:=by rw [hss]; exact List.length_pos_iff.2 hb0
  have hle:(xs.map λx=>decB x.1).length<=1000000:=by
   rw [ho,List.length_map];have:=WT s s.size;omega
  have hne:xs.map (λx=>decB x.1)≠[]:=by
   rw [ho,kH s hpos]; simp
  generalize xs.map (λx=>decB x.1)=l at hv hdg hle hne;cases l with
  | nil=>exact absurd rfl hne
  | cons d o=>
   simp only [aL] at hle;refine zc.n G3.h [2,3,5,6,16,17,19,20] (let v2:=o.length+1;.ex (λ(u:List Nat)=>u.length=o.length+1/\0+(o.length+1)<=o.length+1/\o.length+1<4611686018427387904/\eqG v2 1 (natG .u32 (d::o)) (natG .u32 u)/\dig (List.take v2 (List.drop 0 u))) λn=>.all (λ(x:Nat)=>x=val (List.take v2 (List.drop 0 n))) λn=>let v1:List AV:=[.bool neg,.osl 4 1 0 (canon n).length];.R [.agg v1] [.box v1,.box v1,.box [.str b],.arr 1 1 (natG .u32 [d]),.arr v2 1 (natG .u32 (d::o))]) ?_;simp only [Tree.holds,zf];have htk:(List.take (o.length+1) (List.drop 0 (d::o)))=d::o:=by simp
   refine⟨d::o,⟨rfl,by omega,by omega,za _ _ _,by rw [htk]; exact hdg⟩,⟨_,rfl⟩,?_⟩;intro X hX;have hX:X=numD b:=by rw [htk,hv] at hX; exact hX
   subst hX;refine RetR.out0 hq (λh=>by cases h) ?_;simp only [resV,exp2,exp1,List.map_cons,List.map_nil,exp0,ren0,zO,frz1,wg,List.getElem?_cons_zero,List.getElem?_cons_succ,if_true,eqA2,eqA,eqL0,eqA0,magS,natS,true_and,and_true];exact jV (u:=d::o) (off:=0) (n:=o.length+1) (by simpa using hdg) (by simpa using hv)
theorem zrx:ze prog 140 zjg:=by
 refine zh' f140 λp hp O w0 Q hq=> ?_
 obtain⟨neg,b⟩:=p;obtain⟨hb,hb0,hbl⟩:=hp;replace hq:=hq _ rfl;simp only at hb hb0 hbl hq;obtain⟨s,hs⟩:∃ s,sgn neg b=s:=⟨_,rfl⟩;simp only [hs];refine zc.n G3.h [2,3,5,6,16,17,19,20] (let v2:=rfs K140 0;let v1:List (Nat×AV):=[(2,.ptr 0 0),(3,.ptr 1 0),Z 5,Z 6,(16,.fn 173 [] [.ptr 2 0]),Z 17,Z 19,Z 20];.side ((0:Int)<=0/\(0:Int)<s.length) (.D ((↑(UInt8.toNat (s.getD 0 (0:UInt8))):Int)=45) (.side ((0:Int)<=1/\(1:Int)<=s.length) (.ex (λ(x:L8)=>eqL [.str (List.drop 1 (List.take s.length s))] [.str x]/\eqH [] []/\0=0/\True) λn=>.A λn_1=>.leaf (.range v2.1 v2.2 v1 [.box [.bool false,.nils],.box [.bool true,.nils],.box [.str n]]))) (.ex (λ(x:L8)=>eqL [.str s] [.str x]/\eqH [] []/\0=0/\True) λn=>.A λn_1=>.leaf (.range v2.1 v2.2 v1 [.box [.bool false,.nils],.box [.bool false,.nils],.box [.str n]])))) ?_;subst hs;have hmain:=zhs (O:=O) (w0:=w0) neg b hb hb0 hbl hq;obtain⟨c,b',rfl⟩:=List.exists_cons_of_ne_nil hb0;have hc:=hb c (by simp);simp only [Tree.holds,zf];cases neg with
 | true=>
  simp only [sgn,if_true];refine⟨by simp; omega,λ_=>⟨λ_=>⟨by simp; omega,λ_=> ?_⟩,λh=>by simp at h⟩⟩;refine⟨c::b',⟨by simp,by simp,by simp⟩,⟨(),trivial⟩,λ_ _=>hmain⟩
 | false=>
  simp only [sgn,Bool.false_eq_true,if_false];refine⟨by simp,λ_=>⟨λh=> ?_,λ_=> ?_⟩⟩
  ·simp at h; omega
  ·refine⟨c::b',⟨by simp,by simp,by simp⟩,⟨(),trivial⟩,λ_ _=>hmain⟩
noncomputable def K141:=Go.Sx.aA f141
noncomputable def K105:=Go.Sx.aA f105
def wN(l:List Nat)(n i:Nat):List Nat:=(List.range l.length).map λp=>if p<n/\(p<i\/n - i<=p) then l.getD (n - 1 - p) 0 else l.getD p 0
theorem QK(l:List Nat)(n i:Nat):(wN l n i).length=l.length:=by simp [wN]
theorem Xb{l:List Nat}{n i p:Nat}(h:p<l.length):(wN l n i).getD p 0=if p<n/\(p<i\/n - i<=p) then l.getD (n - 1 - p) 0 else l.getD p 0:=by
 simp [wN,List.getD,h]
theorem zam(l:List Nat)(n:Nat):wN l n 0=l:=by
 apply List.ext_getElem (by simp [wN]);intro p h1 h2;simp only [wN,List.getElem_map,List.getElem_range];rw [aO (by omega)]; simp [h2]
theorem zcf{l:List Nat}{n i:Nat}(hn:n<=l.length)(hi2:i<n - 1 - i):((wN l n i).set i ((wN l n i).getD (n - 1 - i) 0)).set (n - 1 - i) ((wN l n i).getD i 0)=wN l n (i+1):=by
 rw [Xb (by omega),Xb (by omega),aO (by omega),aO (by omega)];apply List.ext_getElem (by simp [wN]);intro p h1 h2;rw [QK] at h2;simp only [List.getElem_set,wN,List.getElem_map,List.getElem_range];by_cases ha:n - 1 - i=p
 ·rw [aP ha,aP (by omega)]; congr 1; omega
 ·rw [aO ha];by_cases hb:i=p
  ·subst hb; rw [aP rfl,aP (by omega)]
  ·rw [aO hb];by_cases hc:p<n/\(p<i\/n - i<=p)
   ·rw [aP hc,aP (by omega)]
   ·rw [aO hc,aO (by omega)]
theorem zi8{l:List Nat}{n i:Nat}(hn:n<=l.length)(hi2:n - 1 - i<=i):wN l n i=(l.take n).reverse++l.drop n:=by
 apply List.ext_getElem (by simp [wN]; omega);intro p h1 h2;rw [QK] at h1;simp only [wN,List.getElem_map,List.getElem_range];have hl:(l.take n).reverse.length=n:=by simp; omega
 by_cases ha:p<n
 ·rw [List.getElem_append_left (by omega),List.getElem_reverse,List.getElem_take];have e:(l.take n).length - 1 - p=n - 1 - p:=by simp; omega
  simp only [e];by_cases hc:p<i\/n - i<=p
  ·rw [aP ⟨ha,hc⟩]; simp [show n - 1 - p<l.length by omega]
  ·rw [aO (λh=>hc h.2)];have:n - 1 - p=p:=by omega
   simp [this,h1]
 ·rw [aO (λh=>ha h.1),List.getElem_append_right (by omega)];simp only [hl,List.getElem_drop];have:n+(p - n)=p:=by omega
  simp [this,h1]
def Va:Ctr:=ctrT false false (λp:List Nat×Nat=>[.osl 0 1 0 p.2]) (λp=>[.arr p.1.length 1 (natG .u8 p.1)]) (λp=>p.2<=p.1.length/\p.1.length<2^62) (λ_ (_:Unit)=>True) (λp _=>(.tup [],[.arr p.1.length 1 (natG .u8 ((p.1.take p.2).reverse++p.1.drop p.2))]))
def SV(n i:Nat):KV:=[(0,.osl 0 1 0 n),(2,.i (i:Int)),(3,.i ((n:Int) - 1 - i))]
theorem zc2:ze prog 141 Va:=by
 refine z9 (fn:=f141) (c:=f141.body.getD .skip) rfl rfl rfl (λh=>by cases h) λp hp O w0 I0 Q hl0 hq=> ?_
 obtain⟨l,n⟩:=p;obtain⟨hn,hl⟩:=hp;replace hq:=hq () trivial;simp only at hn hl hq;refine zc.n zw [0,2,3] (Tree.side (inR IntKind.i64 ((n:Int) - (1:Int))) (Tree.leaf (qe.loop (Prod.fst (lps K141 (0:Nat))) (Prod.snd (lps K141 (0:Nat))) [((0:Nat),AV.osl (0:Nat) (1:Nat) (0:Nat) n),((2:Nat),AV.i 0),((3:Nat),AV.i (n-1))] [Blk.arr l.length (1:Nat) (natG .u8 l)]))) ?_;simp only [Tree.holds,zf,inR,lo,hi];refine⟨by omega,λ_=> ?_⟩;refine zc.loop (ι:={i:Nat // i<=n}) (λi=>SV n i.1) (λi=>[.arr l.length 1 (natG .u8 (wN l n i.1))]) (λi=>n - i.1) ⟨0,aI _⟩ 0 ?_ ?_ (by kernel_rfl)
 ·exact⟨by simp [SV],by simp [zam,za],by kernel_rfl,aJ _⟩
 ·rintro⟨i,hin⟩;obtain⟨u,hu⟩:∃ u,wN l n i=u:=⟨_,rfl⟩;have hul:u.length=l.length:=by rw [<- hu,QK]
  simp only [hu,<- hul];refine zc.n zw [0,2,3] (Tree.ite (decide ((i:Int)<(n:Int) - (1:Int) - (i:Int))) (Tree.side ((0:Int)<=(n:Int) - (1:Int) - (i:Int)/\(n:Int) - (1:Int) - (i:Int)<(n:Int)) (Tree.side ((0:Int)<=(i:Int)/\(i:Int)<(n:Int)) (Tree.side ((0:Int)<=(i:Int)/\(i:Int)<(n:Int)) (Tree.side ((0:Int)<=(n:Int) - (1:Int) - (i:Int)/\(n:Int) - (1:Int) - (i:Int)<(n:Int)) (Tree.side (inR IntKind.i64 ((i:Int)+(1:Int))) (Tree.side (inR IntKind.i64 ((n:Int) - (1:Int) - (i:Int) - (1:Int))) (Tree.leaf (qe.back (0:Nat) [((0:Nat),AV.osl (0:Nat) (1:Nat) (0:Nat) n),((2:Nat),AV.i (i+1)),((3:Nat),AV.i (n-1-i-1))] [Blk.arr u.length (1:Nat) (updG (updG (natG .u8 u) ((0:Nat)+Int.toNat i) (0:Nat) [.int .u8 ↑(u.getD ((0:Nat)+Int.toNat (n-1-i)) (0:Nat))]) ((0:Nat)+Int.toNat (n-1-i)) (0:Nat) [.int .u8 ↑(u.getD ((0:Nat)+Int.toNat i) (0:Nat))])])))))))) (Tree.leaf (qe.ret [] [Blk.arr u.length (1:Nat) (natG .u8 u)]))) ?_;simp only [Tree.holds,zf,inR,lo,hi,aD];refine⟨λhlt=> ?_,λhge=> ?_⟩
  ·have hlt:i<n - 1 - i:=by simp at hlt; omega
   have ej:((n:Int) - 1 - i).toNat=n - 1 - i:=by omega
   rw [ej]
   iterate 6 refine⟨by omega,λ_=> ?_⟩
   rw [aP trivial];have hs:=zcf (l:=l) hn hlt;rw [hu] at hs;refine⟨⟨i+1,by omega⟩,by show n - (i+1)<n - i; omega,by simp [SV]; omega,?_,by kernel_rfl,aJ _⟩;rw [<- hs];refine⟨⟨rfl,rfl,?_⟩,trivial⟩;have h1:=vA (k:=.u8) (l:=u) (v:=(u.getD (n - 1 - i) 0:Nat)) (i:=i) (by omega) (by omega);have h2:=vA (k:=.u8) (l:=u.set i (u.getD (n - 1 - i) 0)) (v:=(u.getD i 0:Nat)) (i:=n - 1 - i) (by omega) (by simp; omega);simp only [List.length_set,aD] at h1 h2;refine QD ?_ h2;intro p o hp ho;have:=h1 p o hp ho;simp only [updG,Nat.zero_add] at this ⊢;split
   ·rfl
   ·exact this
  ·have hge:n - 1 - i<=i:=by simp at hge; omega
   have hr:=zi8 (l:=l) hn hge;rw [hu] at hr;refine⟨[0],rfl,by simp,by simp,by simp [Va,ctrT],.tup [],_,qT (by simp [resV,exp2,eqA2,eqL1]),.inl ?_,rfl,hq⟩;simp [expH,expB,hr,za];omega
def xa(neg:Bool)(x:Nat):Blk:=.box [.bool neg,magS x]
def SW(x i n:Nat):KV:=[(1,.ptr 0 0),(4,.osl 1 1 0 n),Z 6,(12,magS x),(13,.i ((canon x).length:Int)),(14,.i (i:Int)),Z 18]
def SW2(x i n g k:Nat):KV:=[(1,.ptr 0 0),(4,.osl 1 1 0 n),(6,.int .u32 (g:Int)),(12,magS x),(13,.i ((canon x).length:Int)),(14,.i (i:Int)),(18,.i (k:Int))]
noncomputable def G4:=tb zc2 tz
theorem Zq(k:IntKind)(l:List Nat)(n:Nat)(hn:n<=l.length):xA n (zi (natG k l) 0)=(l.take n).map UInt8.ofNat:=by
 apply List.ext_getElem (by simp [xA]; omega);intro j h1 h2;have hj:j<n:=by simpa [xA] using h1
 simp [xA,zi,natG,Sx.byteOf,show j<l.length by omega]
def wb(x i:Nat):List Nat:=(decs (9*i) (val ((canon x).take i))).map (48 + ·)
theorem XY(x i:Nat):(wb x i).length=9*i:=by simp [wb,kG]
theorem zfp(i:Nat):B^i=10^(9*i):=by rw [Nat.pow_mul]
theorem zpf{x i:Nat}(h:i<(canon x).length):wb x i++(decs 9 ((canon x).getD i 0)).map (48 + ·)=wb x (i+1):=by
 have h1:=zZ (jk (zm x) i);rw [aH,Nat.min_eq_left (by omega),zfp] at h1;simp only [wb];rw [<- List.map_append,<- Jo _ _ _ _ h1,zt,zfp];rfl
theorem zd3(x:Nat):wb x (canon x).length=(dec x).map (48 + ·)++List.replicate (9*(canon x).length - (dec x).length) 48:=by
 have h:x<10^(9*(canon x).length):=by
  have:=zZ (zm x)
  rwa [zq,zfp] at this
 simp only [wb,bD,zq,zll h,Ten.padN,List.map_append,List.map_replicate,dec]
def W8:Ctr:=ctrP true (λp:Bool×Nat=>[.agg [.bool p.1,magS p.2]]) (λp=>(canon p.2).length<1000000) (λp r=>r=wr p.1 p.2) (λ_ r=>(.tup [.str r.1,.i r.2],[]))
abbrev q14(A:List AV)(H:Heap)(x:List Nat×Nat):Prop:=eqL A [.osl (0:Nat) (1:Nat) (0:Nat) x.2]/\eqH H [Blk.arr x.1.length (1:Nat) (natG .u8 x.1)]/\(1:Nat)=(1:Nat)/\Prod.snd x<=List.length x.1/\List.length x.1<(4611686018427387904:Nat)
theorem zha{O:Nat->Prop}{w0:World}{Q:AV×Heap->Prop}{Hs:Nat->KV->Heap->Prop}(neg:Bool)(x:Nat)(hx:(canon x).length<1000000)(hx0:x≠0)(hq:Q (.tup [.str (wr neg x).1,.i (wr neg x).2],[]))(b:List Nat)(hb:b=wb x (canon x).length) :
  zc prog f105 O 0 w0 [] Hs (RetR W8 0 Q) (.code (.loop (lps (inside K105 0) 1).1)::(lps (inside K105 0) 1).2) (mk f105.ntmps (SW x (canon x).length b.length) [xa neg x,.arr b.length 1 (natG .u8 b)]):=by
 have hdl:=Ye hx0
 have hle:(dec x).length<=9*(canon x).length:=by
  have:=zZ (zm x);rw [zq,zfp] at this;exact xr this
 have hbl:b.length=9*(canon x).length:=by rw [hb,XY]
 have hget:∀ p,p<b.length->b.getD p 0=48+(dec x).getD p 0:=by
  intro p hp;rw [hb,zd3];by_cases h:p<(dec x).length
  ·rw [xN (by simpa using h),zg8 (z:=0) h]
  ·rw [xC (by simpa using Nat.le_of_not_lt h),Vx (by simp; omega),vE (Nat.le_of_not_lt h)]
 have htake:b.take (dec x).length=(dec x).map (48 + ·):=by
  rw [hb,zd3,List.take_append_of_le_length (by simp),bF (by simp)]
 refine zc.loop (ι:={n:Nat // (dec x).length<=n/\n<=b.length}) (λn=>SW x (canon x).length n.1) (λ_=>[xa neg x,.arr b.length 1 (natG .u8 b)]) (λn=>n.1) ⟨b.length,by omega,aJ _⟩ 0 ?_ ?_ (by kernel_rfl)
 ·exact⟨by simp [SW,magS,natS,za],by simp [xa,magS,natS,za],by kernel_rfl,aI _⟩
 ·rintro⟨n,hn1,hn2⟩;obtain⟨L,hL⟩:∃ L,(canon x).length=L:=⟨_,rfl⟩;simp only [hL];refine zc.n G4.h [1,4,6,12,13,14,18] (let v6:=natG .u8 b;let v5:=zj (1:Nat) [.int .u8 45];let v4:=inR IntKind.i64 ((n:Int) - (1:Int));let v1:=[AV.bool neg,AV.sl (canon x).length (1:Nat) (natG .u32 (canon x))];Tree.side v4 (Tree.side ((0:Int)<=(n:Int) - (1:Int)/\(n:Int) - (1:Int)<(n:Int)) (Tree.ite (decide ((↑(b.getD ((0:Nat)+Int.toNat (n-1)) (0:Nat)):Int)=(48:Int))) (Tree.side v4 (Tree.side ((0:Int)<=(n:Int) - (1:Int)/\(n:Int) - (1:Int)<=(n:Int)) (Tree.leaf (qe.back (0:Nat) [((1:Nat),AV.ptr (0:Nat) (0:Nat)),((4:Nat),AV.osl (1:Nat) (1:Nat) (0:Nat) (Int.toNat (n-1) - (0:Nat))),((6:Nat),AV.undef),((12:Nat),AV.sl (canon x).length (1:Nat) (natG .u32 (canon x))),((13:Nat),AV.i (canon x).length),((14:Nat),AV.i L),((18:Nat),AV.undef)] [Blk.box v1,Blk.arr b.length (1:Nat) v6])))) (Tree.ite (decide ((1000:Int)<(n:Int))) (Tree.leaf (qe.ret [.str #[].toList,.i 14] [Blk.box v1,Blk.arr b.length (1:Nat) v6])) (Tree.ite neg (Tree.side ((0:Nat)=(0:Nat)/\n<=List.length b/\(n+(1:Nat))*(1:Nat)<=(140737488355328:Nat)) (Tree.ex (q14 [.osl (0:Nat) (1:Nat) (0:Nat) (n+(1:Nat))] [Blk.arr (n+(1:Nat)) (1:Nat) (appG n v6 (zi v5 (0:Nat)))]) λ(n_1:List Nat×Nat)=>let v2:=List.reverse (List.take n_1.2 n_1.1)++List.drop n_1.2 n_1.1;Tree.A λ(n_2:Unit)=>Tree.side (∀ (j:Nat),j<n+(1:Nat)->∃ (b:UInt8),AV.int .u8 ↑(List.getD v2 ((0:Nat)+j) (0:Nat))=AV.int .u8 ↑(UInt8.toNat b)) (Tree.leaf (qe.ret [.str (xA (n+(1:Nat)) (zi (natG .u8 v2) (0:Nat))),.i 0] [Blk.box v1,Blk.arr n_1.1.length (1:Nat) (natG .u8 v2),Blk.arr (1:Nat) (1:Nat) v5])))) (Tree.ex (q14 [.osl (0:Nat) (1:Nat) (0:Nat) n] [Blk.arr b.length (1:Nat) v6]) λ(n_1:List Nat×Nat)=>let v3:=List.reverse (List.take n_1.2 n_1.1)++List.drop n_1.2 n_1.1;Tree.A λ(n_2:Unit)=>Tree.side (∀ (j:Nat),j<n->∃ (b:UInt8),AV.int .u8 ↑(List.getD v3 ((0:Nat)+j) (0:Nat))=AV.int .u8 ↑(UInt8.toNat b)) (Tree.leaf (qe.ret [.str (xA n (zi (natG .u8 v3) (0:Nat))),.i 0] [Blk.box v1,Blk.arr n_1.1.length (1:Nat) (natG .u8 v3)])))))))) ?_;have e1:((n:Int) - 1).toNat=n - 1:=by omega
  have e2:0+(n - 1)=n - 1:=by omega
  have e3:n - 1 - 0=n - 1:=by omega
  simp only [Tree.holds,zf,inR,lo,hi,e1,e2,e3];have hg:=hget (n - 1) (by omega);rw [hg]
  iterate 2 refine⟨by omega,λ_=> ?_⟩
  refine⟨λhz=> ?_,λhnz=>⟨λhbig=> ?_,λhsm=> ?_⟩⟩
  ·have hz:(dec x).getD (n - 1) 0=0:=by simp at hz ⊢; omega
   have hne:n≠(dec x).length:=by
    rintro rfl;exact zf2 hdl hz
   iterate 2 refine⟨by omega,λ_=> ?_⟩
   rw [aP trivial];exact⟨⟨n - 1,by omega,by omega⟩,by show n - 1<n; omega,by simp [SW,magS,natS,za],by simp [xa,magS,natS,za],by kernel_rfl,aI _⟩
  ·have hn:n=(dec x).length:=by
    rcases aR (dec x).length n with h | h
    ·have:(dec x).getD (n - 1) 0=0:=by simp [List.getD,aZ (show(dec x).length<=n - 1 by omega)]
     rw [this] at hnz; simp at hnz
    ·omega
   subst hn;have hbig:1000<(dec x).length:=by simp at hbig; omega
   simp only [wr,aO hx0,aP hbig] at hq;exact RetR.scal hq rfl rfl
  ·have hn:n=(dec x).length:=by
    rcases aR (dec x).length n with h | h
    ·have:(dec x).getD (n - 1) 0=0:=by simp [List.getD,aZ (show(dec x).length<=n - 1 by omega)]
     rw [this] at hnz; simp at hnz
    ·omega
   subst hn;have hsm:¬ 1000<(dec x).length:=by simp at hsm; omega
   simp only [wr,aO hx0,aO hsm] at hq
   have hbyte:∀ (l:List Nat) (k:Nat),(∀ d∈l,d<256)->∀ j,j<k->∃ c:UInt8,AV.int .u8 ((l.getD (0+j) 0:Nat):Int) = .int .u8 (c.toNat:Int):=by
    intro l k hl j hj;rw [Nat.zero_add]
    have:l.getD j 0<256:=by
     by_cases h:j<l.length
     ·have:=hl l[j] (bK h);simpa [List.getD,h] using this
     ·simp [List.getD,aZ (Nat.le_of_not_lt h)]
    refine⟨UInt8.ofNat (l.getD j 0),?_⟩;simp only [AV.int.injEq,true_and];rw [UInt8.toNat_ofNat',Nat.mod_eq_of_lt this]
   have hb256:∀ d∈b,d<256:=by
    intro d hd;rw [hb,zd3] at hd;rcases bZ.1 hd with hd | hd
    ·obtain⟨y,hy,rfl⟩:=List.mem_map.1 hd;have:=Ten.zm x y hy;simp only [Ten.B] at this;omega
    ·have:=(List.mem_replicate.1 hd).2; omega
   have htx:((b.take (dec x).length).reverse).map UInt8.ofNat=txt x:=by
    rw [htake,txt,aO hx0,List.map_reverse,List.map_map]; rfl
   refine⟨λhneg=> ?_,λhneg=> ?_⟩
   ·subst hneg;refine⟨⟨trivial,hn2,by omega⟩,λ_=> ?_⟩;have hal:(b.take (dec x).length++[45]).length=(dec x).length+1:=by simp; omega
    refine⟨(b.take (dec x).length++[45],(dec x).length+1),⟨by simp,?_,by simp,by simp only [hal]; omega,by simp only [hal]; omega⟩,⟨(),trivial⟩,λ_ _=>⟨?_,λ_=> ?_⟩⟩
    ·simp only [eqH,eqB,hal];refine⟨⟨trivial,trivial,?_⟩,trivial⟩;intro j o hj ho;have:o=0:=by omega
     subst this;simp only [appG,zi,zj,natG];have hl:(b.take (dec x).length).length=(dec x).length:=by simp; omega
     by_cases h:j<(dec x).length
     ·rw [aP h,xN (by omega),ZZ h]
     ·have:j=(dec x).length:=by omega
      subst this;rw [aO (by omega),xC (by omega),hl,Nat.sub_self];rfl
    ·refine hbyte _ _ ?_;intro d hd;simp only [bZ,List.mem_reverse] at hd;rcases hd with hd | hd
     ·have:=List.mem_of_mem_take hd;rcases bZ.1 this with h | h
      ·exact hb256 d (List.mem_of_mem_take h)
      ·simp at h; omega
     ·have:=List.mem_of_mem_drop hd;rcases bZ.1 this with h | h
      ·exact hb256 d (List.mem_of_mem_take h)
      ·simp at h; omega
    ·refine RetR.scal hq rfl ?_;simp only [resV];rw [Zq _ _ _ (by simp; omega)];have ht:List.take ((dec x).length+1) (b.take (dec x).length++[45])=b.take (dec x).length++[45]:=bF (by omega);rw [ht,List.take_append_of_le_length (by simp; omega),bF (by simp; omega),List.reverse_append,List.map_append,htx];simp [sgn]
   ·subst hneg;refine⟨(b,(dec x).length),⟨by simp,by simp [za],by simp,hn2,by simp only [hbl]; omega⟩,⟨(),trivial⟩,λ_ _=>⟨?_,λ_=> ?_⟩⟩
    ·refine hbyte _ _ ?_;intro d hd;simp only [bZ,List.mem_reverse] at hd;rcases hd with hd | hd
     ·exact hb256 d (List.mem_of_mem_take hd)
     ·exact hb256 d (List.mem_of_mem_drop hd)
    ·refine RetR.scal hq rfl ?_;simp only [resV];have hrl:((b.take (dec x).length).reverse).length=(dec x).length:=by simp; omega
     rw [Zq _ _ _ (by rw [bO,hrl]; omega),List.take_append_of_le_length (by omega),bF (by omega),htx];simp [sgn]
theorem Vn:ze prog 105 W8:=by
 refine zh' f105 λp hp O w0 Q hq=> ?_
 obtain⟨neg,x⟩:=p;replace hq:=hq _ rfl;simp only at hp hq;refine zc.n G4.h [1,4,6,12,13,14,18] (let v1:=[AV.bool neg,AV.sl (canon x).length (1:Nat) (natG .u32 (canon x))];Tree.ite (decide (((canon x).length:Int)=(0:Int))) (Tree.leaf (qe.ret [.str #[(48:UInt8)].toList,.i 0] [Blk.box v1])) (Tree.leaf (qe.loop (Prod.fst (lps K105 (0:Nat))) (Prod.snd (lps K105 (0:Nat))) [((1:Nat),AV.ptr (0:Nat) (0:Nat)),((4:Nat),AV.nils),((6:Nat),AV.undef),((12:Nat),AV.sl (canon x).length (1:Nat) (natG .u32 (canon x))),((13:Nat),AV.i (canon x).length),((14:Nat),AV.i 0),((18:Nat),AV.undef)] [Blk.box v1]))) ?_;simp only [Tree.holds,zf,inR,lo,hi];refine⟨λh0=> ?_,λh0=> ?_⟩
 ·have h0:x=0:=by
   rcases bC x with h | h
   ·exact h
   ·have:=jR (x:=x) (n:=0) (by simp; omega);simp at h0; rw [h0] at this; simp at this
  subst h0;refine RetR.scal hq rfl ?_;simp [resV,wr]
 ·have hx0:x≠0:=by
   rintro rfl;simp [zX] at h0
  refine zc.bear 4 1 (natG .u8 []) (by kernel_rfl) (by decide +kernel) (by kernel_rfl) ?_;refine zc.loop (ι:={i:Nat // i<=(canon x).length}) (λi=>SW x i.1 (wb x i.1).length) (λi=>[xa neg x,.arr (wb x i.1).length 1 (natG .u8 (wb x i.1))]) (λi=>(canon x).length - i.1) ⟨0,aI _⟩ 0 ?_ ?_ (by kernel_rfl)
  ·exact⟨by simp [kC,SW,magS,natS,za,XY],by simp [xa,magS,natS,za,XY,eqG],by kernel_rfl,aI _⟩
  ·rintro⟨i,hil⟩;obtain⟨b,hb⟩:∃ b,wb x i=b:=⟨_,rfl⟩;simp only [hb];refine zc.n G4.h [1,4,6,12,13,14,18] (let v3:=natG .u32 (canon x);let v2:=inside K105 (0:Nat);let v1:=[AV.bool neg,AV.sl (canon x).length (1:Nat) v3];Tree.ite (decide ((i:Int)<((canon x).length:Int))) (Tree.side ((0:Int)<=(i:Int)/\(i:Int)<((canon x).length:Int)) (Tree.leaf (qe.loop (Prod.fst (lps v2 (0:Nat))) (Prod.snd (lps v2 (0:Nat))) [((1:Nat),AV.ptr (0:Nat) (0:Nat)),((4:Nat),AV.osl (1:Nat) (1:Nat) (0:Nat) b.length),((6:Nat),AV.int .u32 ↑(List.getD (canon x) (i:Int).toNat (0:Nat))),((12:Nat),AV.sl (canon x).length (1:Nat) v3),((13:Nat),AV.i (canon x).length),((14:Nat),AV.i i),((18:Nat),AV.i 0)] [Blk.box v1,Blk.arr b.length (1:Nat) (natG .u8 b)]))) (Tree.leaf (qe.loop (Prod.fst (lps v2 (1:Nat))) (Prod.snd (lps v2 (1:Nat))) [((1:Nat),AV.ptr (0:Nat) (0:Nat)),((4:Nat),AV.osl (1:Nat) (1:Nat) (0:Nat) b.length),((6:Nat),AV.undef),((12:Nat),AV.sl (canon x).length (1:Nat) v3),((13:Nat),AV.i (canon x).length),((14:Nat),AV.i i),((18:Nat),AV.undef)] [Blk.box v1,Blk.arr b.length (1:Nat) (natG .u8 b)]))) ?_;simp only [Tree.holds,zf,inR,lo,hi,aD];refine⟨λhlt=>⟨by simp at hlt; omega,λ_=> ?_⟩,λhge=> ?_⟩
   ·have hlt:i<(canon x).length:=by simp at hlt; omega
    obtain⟨g,hg⟩:∃ g,(canon x).getD i 0=g:=⟨_,rfl⟩;have hgB:g<1000000000:=hg▸zP (zm x) i;have hstep:=zpf hlt;have hbl:b.length=9*i:=by rw [<- hb,XY]
    rw [hb,hg] at hstep;rw [hg];refine zc.loop (ι:={k:Nat // k<=9}) (λk=>SW2 x i (b++(decs k.1 g).map (48 + ·)).length (g/10^k.1) k.1) (λk=>[xa neg x,.arr (b++(decs k.1 g).map (48 + ·)).length 1 (natG .u8 (b++(decs k.1 g).map (48 + ·)))]) (λk=>9 - k.1) ⟨0,aI _⟩ 1 ?_ ?_ (by kernel_rfl)
    ·exact⟨by simp [SW2,magS,natS,za,decs],by simp [xa,magS,natS,za,decs],by kernel_rfl,aI _⟩
    ·rintro⟨k,hk⟩;obtain⟨c,hc⟩:∃ c,b++(decs k g).map (48 + ·)=c:=⟨_,rfl⟩;obtain⟨q,hqv⟩:∃ q,g/10^k=q:=⟨_,rfl⟩;have hqB:q<1000000000:=by rw [<- hqv]; exact Nat.lt_of_le_of_lt (Nat.div_le_self _ _) hgB
     have hcl:c.length=9*i+k:=by rw [<- hc]; simp [kG,hbl]
     have hnext:b++(decs (k+1) g).map (48 + ·)=c++[48+q%10]:=by
      rw [Kf,List.map_append,<- List.append_assoc,hc,hqv]; rfl
     have hqn:g/10^(k+1)=q/10:=by rw [Nat.pow_succ,<- Nat.div_div_eq_div_mul,hqv]
     simp only [hc,hqv];refine zc.n G4.h [1,4,6,12,13,14,18] (let v5:=Int.tdiv (q:Int) (10:Int);let v4:=natG .u32 (canon x);let v3:=List.length c+(1:Nat);let v2:=zj (1:Nat) [.int .u8 ((48:Int)+Int.tmod (q:Int) (10:Int))];let v1:=[AV.bool neg,AV.sl (canon x).length (1:Nat) v4];Tree.ite (decide ((k:Int)<(9:Int))) (Tree.side ((10:Int)≠(0:Int)) (Tree.side (inR IntKind.u32 ((48:Int)+Int.tmod (q:Int) (10:Int))) (Tree.side (inR IntKind.u8 ((48:Int)+Int.tmod (q:Int) (10:Int))) (Tree.side ((0:Nat)=(0:Nat)/\List.length c<=List.length c/\v3 *(1:Nat)<=(140737488355328:Nat)) (Tree.side ((10:Int)≠(0:Int)/\inR IntKind.u32 v5) (Tree.side (inR IntKind.i64 ((k:Int)+(1:Int))) (Tree.leaf (qe.back (1:Nat) [((1:Nat),AV.ptr (0:Nat) (0:Nat)),((4:Nat),AV.osl (1:Nat) (1:Nat) (0:Nat) v3),((6:Nat),AV.int .u32 v5),((12:Nat),AV.sl (canon x).length (1:Nat) v4),((13:Nat),AV.i (canon x).length),((14:Nat),AV.i i),((18:Nat),AV.i (k+1))] [Blk.box v1,Blk.arr v3 (1:Nat) (appG c.length (natG .u8 c) (zi v2 (0:Nat))),Blk.arr (1:Nat) (1:Nat) v2])))))))) (Tree.side (inR IntKind.i64 ((i:Int)+(1:Int))) (Tree.leaf (qe.back (0:Nat) [((1:Nat),AV.ptr (0:Nat) (0:Nat)),((4:Nat),AV.osl (1:Nat) (1:Nat) (0:Nat) c.length),((6:Nat),AV.int .u32 q),((12:Nat),AV.sl (canon x).length (1:Nat) v4),((13:Nat),AV.i (canon x).length),((14:Nat),AV.i (i+1)),((18:Nat),AV.i k)] [Blk.box v1,Blk.arr c.length (1:Nat) (natG .u8 c)])))) ?_;have e10:(10:Int)=((10:Nat):Int):=rfl;have em:Int.tmod (q:Int) 10=((q%10:Nat):Int):=by rw [e10,zem]
     have ed:Int.tdiv (q:Int) 10=((q/10:Nat):Int):=by rw [e10,zdx]
     simp only [Tree.holds,zf,inR,lo,hi,em,ed];refine⟨λhlt2=> ?_,λhge2=> ?_⟩
     ·have hlt2:k<9:=by simp at hlt2; omega
      refine⟨by decide,λ_=>⟨by omega,λ_=>⟨by omega,λ_=>⟨⟨trivial,aJ _,by omega⟩,λ_=>⟨⟨by decide,by omega,by omega⟩,λ_=>⟨by omega,λ_=> ?_⟩⟩⟩⟩⟩⟩;rw [aP trivial];refine⟨⟨k+1,by omega⟩,by show 9 - (k+1)<9 - k; omega,?_,?_,by kernel_rfl,aI _⟩
      ·simp [SW2,hnext,hqn,magS,natS,za]
      ·simp only [hnext];refine⟨by simp [xa,magS,natS,za],⟨by simp,rfl,?_⟩,trivial⟩;have:=Z9 (k:=.u8) (l:=c) (v:=48+((q%10:Nat):Int)) (by omega);rw [show(48+((q%10:Nat):Int)).toNat=48+q%10 by omega] at this;exact this
     ·have hge2:k=9:=by simp at hge2; omega
      subst hge2;refine⟨by omega,λ_=> ?_⟩;rw [aO (by decide),aP trivial];have hcw:c=wb x (i+1):=by rw [<- hc,hstep]
      exact⟨⟨i+1,hlt⟩,by show _ - (i+1)<_ - i; omega,by simp [SW,hcw,magS,natS,za],by simp [hcw,xa,magS,natS,za],by kernel_rfl,aI _⟩
   ·have hge:i=(canon x).length:=by simp at hge; omega
    subst hge;exact zha neg x hp hx0 hq b hb.symm
noncomputable def K91:=Go.Sx.aA f91
noncomputable def K92:=Go.Sx.aA f92
theorem yS(c:UInt8):(if decide ((c.toNat:Int)<48)=true then true else decide (57<(c.toNat:Int))) = !isD c:=by
 simp only [isD];by_cases h:c.toNat<48
 ·rw [aP (by simp; omega)]; simp; omega
 ·rw [aO (by simp; omega)];by_cases h2:c.toNat<=57
  ·have:decide (57<(c.toNat:Int))=false:=by simp; omega
   rw [this]; simp; omega
  ·have:decide (57<(c.toNat:Int))=true:=by simp; omega
   rw [this]; simp; omega
def Wx:Ctr:=ctrP true (λs:L8=>[.str s]) (λs=>s.length<2^62) (λs r=>r=errI s) (λ_ r=>(.i r,[]))
def SCk(b:L8)(i:Nat):KV:=[(3,.str b),(31,.i (b.length:Int)),(32,.i (i:Int)),Z 40,Z 41,Z 42,Z 43]
theorem W5{O:Nat->Prop}{w0:World}{Q:AV×Heap->Prop}{neg:Bool}(b:L8)(hb:b.length<2^62)(hf:b.all isD=true->q8 neg b=true)
  (hq:Q (.i (if q8 neg b then(if 1000<b.length then 14 else 0) else 12),[])) :
  zc prog f91 O 0 w0 [] (λ_ _ _=>False) (RetR Wx 0 Q) (.code (.loop (lps K91 0).1)::(lps K91 0).2) (mk f91.ntmps (SCk b 0) []):=by
 refine zc.loop (ι:={i:Nat // i<=b.length/\∀ j,j<i->isD (b.getD j 0)=true}) (λi=>SCk b i.1) (λ_=>[]) (λi=>b.length - i.1) ⟨0,aI _,λj hj=>by omega⟩ 0 ?_ ?_ (by kernel_rfl)
 ·exact⟨by simp [SCk],by simp,by kernel_rfl,aI _⟩
 ·rintro⟨i,hil,hid⟩;refine zc.n zw [3,31,32,40,41,42,43] (let v1:=b.getD (i:Int).toNat (0:UInt8);.D ((i:Int)<b.length) (.side ((0:Int)<=i/\(i:Int)<b.length) (.side (decide ((↑(UInt8.toNat v1):Int)<48)=false->(0:Int)<=i/\(i:Int)<b.length) (.ite (bif decide ((↑(UInt8.toNat v1):Int)<48) then true else decide ((57:Int)<(↑(UInt8.toNat v1):Int))) (.R [.i 12] []) (.S (i+1) (.leaf (.back 0 [(3,.str b),(31,.i b.length),(32,.i (i+1)),Z 40,Z 41,Z 42,Z 43] [])))))) (.D ((1000:Int)<b.length) (.R [.i 14] []) (.R [.i 0] []))) ?_;simp only [Tree.holds,zf,inR,lo,hi,aD,Bool.cond_eq_ite];refine⟨λhlt=> ?_,λhge=>⟨λhbig=> ?_,λhsm=> ?_⟩⟩
  ·have hlt:i<b.length:=by simp at hlt; omega
   refine⟨by omega,λ_=>⟨λ_=>by omega,λ_=>⟨λhbad=> ?_,λhgood=>⟨by omega,λ_=> ?_⟩⟩⟩⟩
   ·have hnd:isD (b.getD i 0)=false:=by
     rw [yS] at hbad;simpa using hbad
    have hnf:q8 neg b=false:=by
     have:b.all isD=false:=by
      rw [List.all_eq_false];refine⟨b.getD i 0,by simp [List.getD,hlt],by simpa using hnd⟩
     simp [q8,this]
    rw [hnf] at hq;exact RetR.scal hq rfl (by simp [resV])
   ·have hd:isD (b.getD i 0)=true:=by
     rw [yS] at hgood;simpa using hgood
    rw [aP trivial];refine⟨⟨i+1,hlt,λj hj=> ?_⟩,by show b.length - (i+1)<b.length - i; omega,by simp [SCk],by simp,by kernel_rfl,aI _⟩;rcases aR j i with h | h
    ·exact hid j h
    ·have:j=i:=by omega
     subst this; exact hd
  all_goals
   have hge:i=b.length:=by simp at hge; omega
   have hall:b.all isD=true:=by
    rw [bG];intro c hc;obtain⟨j,hj,rfl⟩:=List.getElem_of_mem hc;have:=hid j (by omega);simpa [List.getD,hj] using this
   rw [hf hall] at hq
  ·rw [aP rfl,aP (by simp at hbig; omega)] at hq;exact RetR.scal hq rfl (by simp [resV])
  ·rw [aP rfl,aO (by simp at hsm; omega)] at hq;exact RetR.scal hq rfl (by simp [resV])
theorem Vs:ze prog 91 Wx:=by
 refine zh' f91 λs hs O w0 Q hq=> ?_
 replace hq:=hq _ rfl;refine zc.n zw [3,31,32,40,41,42,43] (let v3:qe:=.ret [.i 12] [];let v1:=List.take s.length s;let v2:=List.drop 1 v1;.side (decide ((0:Int)<s.length)=true->(0:Int)<=0/\(0:Int)<s.length) (.ite (bif decide ((0:Int)<s.length) then decide ((↑(UInt8.toNat (s.getD 0 (0:UInt8))):Int)=45) else false) (.side ((0:Int)<=1/\(1:Int)<=s.length) (.D (List.drop 1 v1=#[(48:UInt8)].toList) (.leaf v3) (.side (decide (List.drop 1 v1=#[].toList)=false->(0:Int)<=0/\(0:Int)<(↑(List.length v2):Int)) (.ite (bif decide (List.drop 1 v1=#[].toList) then true else bif decide ((↑(UInt8.toNat (List.getD v2 0 (0:UInt8))):Int)=48) then decide ((1:Int)<(↑(List.length v2):Int)) else false) (.leaf v3) (.leaf (.loop (lps K91 0).1 (lps K91 0).2 [(3,.str v2),(31,.int .i64 ↑(List.length v2)),(32,.i 0),Z 40,Z 41,Z 42,Z 43] [])))))) (.side (decide (s=#[].toList)=false->(0:Int)<=0/\(0:Int)<s.length) (.ite (bif decide (s=#[].toList) then true else bif decide ((↑(UInt8.toNat (s.getD 0 (0:UInt8))):Int)=48) then decide ((1:Int)<s.length) else false) (.leaf v3) (.leaf (.loop (lps K91 0).1 (lps K91 0).2 [(3,.str s),(31,.i s.length),(32,.i 0),Z 40,Z 41,Z 42,Z 43] [])))))) ?_;simp only [Tree.holds,zf,inR,lo,hi,Bool.cond_eq_ite];cases s with
 | nil=>
  simp only [errI,parse,q8] at hq;refine⟨by simp,λ_=>⟨λh=>by simp at h,λ_=>⟨by simp,λ_=>⟨λ_=> ?_,λh=>by simp at h⟩⟩⟩⟩;exact RetR.scal hq rfl (by simp [resV])
 | cons c b=>
  refine⟨by simp,λ_=>⟨λh=> ?_,λh=> ?_⟩⟩
  ·have hc:c=45:=by
    simp at h;have:c.toNat=45:=by omega
    exact UInt8.toNat_inj.1 this
   subst hc;have hp:parse (45::b)=(true,b):=rfl;have hd:List.drop 1 (List.take (45::b).length (45::b))=b:=by simp
   rw [hd];simp only [errI,hp] at hq;refine⟨by simp; omega,λ_=>⟨λh0=> ?_,λh0=>⟨λhne=> ?_,λ_=>⟨λhbad=> ?_,λhgood=> ?_⟩⟩⟩⟩
   ·have hb:b=[48]:=by simpa using h0
    subst hb;exact RetR.scal hq rfl rfl
   ·have:b≠[]:=by simpa using hne
    have:=List.length_pos_iff.2 this;omega
   ·have hnf:q8 true b=false:=by
     by_cases hb:b=[]
     ·subst hb; rfl
     ·rw [aO (by simpa using hb)] at hbad;split at hbad
      ·rename_i h48;have:b.getD 0 0=48:=ZY (aB h48);have hl:1<b.length:=by simp at hbad; omega
       exact kz this hl
      ·cases hbad
    rw [hnf] at hq;exact RetR.scal hq rfl (by simp [resV])
   ·have hf:b.all isD=true->q8 true b=true:=by
     intro hall
     have hb:b≠[]:=by
      intro hb; subst hb; simp at hgood
     have hb2:b≠[48]:=by simpa using h0
     rw [aO (by simpa using hb)] at hgood
     have h3:¬ (b.getD 0 0=48/\1<b.length):=by
      rintro⟨g1,g2⟩;rw [g1] at hgood;rw [aP (by decide)] at hgood;simp at hgood; omega
     simp only [q8,hall,hb,hb2,Bool.and_true];simp only [decide_false,Bool.not_false,Bool.and_false,Bool.true_and,Bool.not_eq_true',Bool.and_eq_false_iff,aV];by_cases g1:b.getD 0 0=48
     ·exact .inr λg2=>h3 ⟨g1,g2⟩
     ·exact .inl g1
    exact W5 b (by simp at hs; omega) hf hq
  ·have hc:c≠45:=by
    rintro rfl;simp at h
   have hp:parse (c::b)=(false,c::b):=by simp [parse,hc]
   simp only [errI,hp] at hq;obtain⟨s,hs'⟩:∃ s,c::b=s:=⟨_,rfl⟩;have hne:s≠[]:=by rw [<- hs']; simp
   rw [hs'] at hq hs ⊢;refine⟨λ_=>⟨by omega,by have:=List.length_pos_iff.2 hne; omega⟩,λ_=>⟨λhbad=> ?_,λhgood=> ?_⟩⟩
   ·have hnf:q8 false s=false:=by
     rw [aO (by simpa using hne)] at hbad;split at hbad
     ·rename_i h48;have:s.getD 0 0=48:=ZY (aB h48);have hl:1<s.length:=by simp at hbad; omega
      exact kz this hl
     ·cases hbad
    rw [hnf] at hq;exact RetR.scal hq rfl (by simp [resV])
   ·have hf:s.all isD=true->q8 false s=true:=by
     intro hall;rw [aO (by simpa using hne)] at hgood
     have h3:¬ (s.getD 0 0=48/\1<s.length):=by
      rintro⟨g1,g2⟩;rw [g1] at hgood;rw [aP (by decide)] at hgood;simp at hgood; omega
     simp only [q8,hall,hne,Bool.and_true];simp only [decide_false,Bool.not_false,Bool.false_and,Bool.true_and,Bool.not_eq_true',Bool.and_eq_false_iff,aV];by_cases g1:s.getD 0 0=48
     ·exact .inr λg2=>h3 ⟨g1,g2⟩
     ·exact .inl g1
    exact W5 s hs hf hq
def numV(neg:Bool)(x:Nat):AV:=.agg [.bool neg,magS x]
def Jl:Ctr:=ctrP false (λp:L8×L8=>[.str p.1,.str p.2]) (λp=>p.1.length<2^62/\p.2.length<2^62) (λp (r:Int×(Bool×Nat)×(Bool×Nat))=>r=if zx p.1 p.2=0 then(0,(negI p.1,numI p.1),(negI p.2,numI p.2)) else(zx p.1 p.2,(false,0),(false,0)))
 (λ_ r=>(.tup [numV r.2.1.1 r.2.1.2,numV r.2.2.1 r.2.2.2,.i r.1],[]))
noncomputable def G5:=tb Vs (tb zrx tz)
theorem zuz:canon 0=[]:=by simp [canon]
abbrev q16(A:List AV)(x:Bool×L8):Prop:=eqL A [.str (sgn x.1 x.2)]/\allD x.2/\x.2≠[]/\x.2.length<=1000000
abbrev q15(A:List AV)(x:L8):Prop:=eqL A [.str x]/\x.length<4611686018427387904
theorem XE:ze prog 104 Jl:=by
 refine zh' f104 λp hp O w0 Q hq=> ?_
 obtain⟨s,t⟩:=p;obtain⟨hs,ht⟩:=hp;replace hq:=hq _ rfl;simp only at hs ht hq;refine zc.n G5.h [] (let v1:List AV:=[.bool false,.nils];.ex (q15 [.str s]) λn=>.all (λ(r:Int)=>r=errI n) λn=>.D (n=0) (.ex (q15 [.str t]) λn=>.all (λ(r:Int)=>r=errI n) λn=>.N (n=0) (.R [.agg v1,.agg v1,.i n] [.box v1,.box v1]) (.ex (q16 [.str s]) λn=>.all (λ(r:Nat)=>r=numD n.2) λn_1=>let v4:List AV:=[.bool n.1,.sl (canon n_1).length 1 (natG .u32 (canon n_1))];.ex (q16 [.str t]) λn_2=>.all (λ(r:Nat)=>r=numD n_2.2) λn_3=>let v2:List AV:=[.bool n_2.1,.sl (canon n_3).length 1 (natG .u32 (canon n_3))];.R [.agg v4,.agg v2,.i 0] [.box v4,.box v2])) (.N (n=0) (.R [.agg v1,.agg v1,.i n] [.box v1,.box v1]) (.ex (q16 [.str s]) λn=>.all (λ(r:Nat)=>r=numD n.2) λn_1=>let v5:List AV:=[.bool n.1,.sl (canon n_1).length 1 (natG .u32 (canon n_1))];.ex (q16 [.str t]) λn_2=>.all (λ(r:Nat)=>r=numD n_2.2) λn_3=>let v3:List AV:=[.bool n_2.1,.sl (canon n_3).length 1 (natG .u32 (canon n_3))];.R [.agg v5,.agg v3,.i 0] [.box v5,.box v3]))) ?_
 have bad:∀ h,zx s t≠0->RetR Jl 0 Q [.agg [.bool false,.nils],.agg [.bool false,.nils],.i (zx s t)] h:=by
  intro h he;rw [aO he] at hq;refine RetR.out0 hq (λh=>by simp [Jl,ctrP] at h) ?_;simp [resV,exp2,exp1,exp0,ren0,eqA2,eqL1,eqA,eqL0,eqA0,numV,magS,natS,zuz]
 have good:∀ h,zx s t=0->RetR Jl 0 Q [.agg [.bool (negI s),magS (numI s)],.agg [.bool (negI t),magS (numI t)],.i 0] h:=by
  intro h he;rw [aP he] at hq;refine RetR.out0 hq (λh=>by simp [Jl,ctrP] at h) ?_;simp [resV,exp2,exp1,exp0,ren0,eqA2,eqL1,eqA,eqL0,eqA0,numV,magS,natS,za]
 have rd:∀ u,errI u=0->eqL [.str u] [.str (sgn (negI u) (parse u).2)]/\allD (parse u).2/\(parse u).2≠[]/\(parse u).2.length<=1000000:=by
  intro u hu;obtain⟨h1,h2,h3,h4⟩:=yx hu;exact⟨by simpa using h1,h2,h3,by omega⟩
 simp only [Tree.holds,zf];refine⟨s,⟨by simp,by omega⟩,?_⟩;refine⟨⟨_,rfl⟩,?_⟩;rintro _ rfl;refine⟨λh1=> ?_,λh1=> ?_⟩
 ·have h1:errI s=0:=by simpa using h1
  refine⟨t,⟨by simp,by omega⟩,?_⟩;refine⟨⟨_,rfl⟩,?_⟩;rintro _ rfl;refine⟨λh2=> ?_,λh2=> ?_⟩
  ·have h2:errI t≠0:=by simpa using h2
   have e:zx s t=errI t:=by simp [zx,h1]
   rw [<- e];exact bad _ (by rw [e]; exact h2)
  ·have h2:errI t=0:=by simpa using h2
   refine⟨(negI s,(parse s).2),rd s h1,?_⟩;refine⟨⟨_,rfl⟩,?_⟩;rintro _ rfl;refine⟨(negI t,(parse t).2),rd t h2,?_⟩;refine⟨⟨_,rfl⟩,?_⟩;rintro _ rfl;exact good _ (zn.2 ⟨h1,h2⟩)
 ·have h1:errI s≠0:=by simpa using h1
  have e:zx s t=errI s:=by simp [zx,h1]
  refine⟨λh2=> ?_,λh2=>absurd (by simpa using h2) h1⟩;rw [<- e];exact bad _ (by rw [e]; exact h1)
noncomputable def G6:=tb XE (tb K1 (tb Vn tz))
def gcdC:Ctr:=ctrP true (λp:L8×L8=>[.str p.1,.str p.2]) (λp=>p.1.length<2^62/\p.2.length<2^62) (λp r=>r=gcdR p.1 p.2) (λ_ r=>(.tup [.str r.1,.i r.2],[]))
def SGc:KV:=[(6,.ptr 0 0),(7,.ptr 1 0)]
def HGc(m n:Bool)(x y:Nat):Heap:=[.box [.bool m,magS x],.box [.bool n,magS y]]
theorem jZ{x:Nat} : x<B^112↔(canon x).length<=112:=by
 refine⟨λh=>zD h,λh=> ?_⟩;have h1:=zZ (zm x);rw [zq] at h1;exact bB h1 (bX (by decide) h)
theorem uP{x:Nat} : (canon x).length=0↔x=0:=by
 constructor
 ·intro h;have:=zq x;rw [aU.1 h] at this;exact this.symm
 ·rintro rfl; simp [canon]
abbrev q19(A:List AV)(x:Bool×Nat):Prop:=eqL A [.agg [.bool x.1,.sl (canon x.2).length 1 (natG .u32 (canon x.2))]]/\List.length (canon x.2)<1000000
abbrev q18(A:List AV)(x:Nat×Nat):Prop:=eqL A [.sl (canon x.1).length 1 (natG .u32 (canon x.1)),.sl (canon x.2).length 1 (natG .u32 (canon x.2))]/\List.length (canon x.1)<100000/\List.length (canon x.2)<100000/\0<x.2
abbrev q17(A:List AV)(x:L8×L8):Prop:=eqL A [.str x.1,.str x.2]/\x.1.length<4611686018427387904/\x.2.length<4611686018427387904
theorem zly:ze prog 92 gcdC:=by
 refine zh' f92 λp hp O w0 Q hq=> ?_
 obtain⟨s,t⟩:=p;obtain⟨hs,ht⟩:=hp;replace hq:=hq _ rfl;simp only at hs ht hq;refine zc.n G6.h [6,7] (.ex (q17 [.str s,.str t]) λn=>.all (λ(r:Int×(Bool×Nat)×Bool×Nat)=>r=if zx n.1 n.2=0 then((0:Int),(negI n.1,numI n.1),negI n.2,numI n.2) else(zx n.1 n.2,(false,0),false,0)) λn=>let v1:List Blk:=[.box [.bool n.2.1.1,.sl (canon n.2.1.2).length 1 (natG .u32 (canon n.2.1.2))],.box [.bool n.2.2.1,.sl (canon n.2.2.2).length 1 (natG .u32 (canon n.2.2.2))]];.N (n.1=0) (.R [.str #[].toList,.i n.1] v1) (.leaf (.loop (lps K92 0).1 (lps K92 0).2 [(6,.ptr 0 0),(7,.ptr 1 0)] v1))) ?_;simp only [q17,Tree.holds,zf];refine⟨(s,t),⟨by simp,hs,ht⟩,⟨_,rfl⟩,?_⟩;rintro _ rfl;refine⟨λhe=> ?_,λhe=> ?_⟩
 ·have he:zx s t≠0:=by
   intro h; simp [h] at he
  have e:gcdR s t=([],zx s t):=by simp [gcdR,he]
  simp only [aO he];rw [e] at hq;exact RetR.scal hq rfl (by simp [resV])
 ·have he:zx s t=0:=by
   refine bM λh=> ?_
   simp [h] at he
  simp only [aP he];have e:gcdR s t=wr false (Nat.gcd (numI s) (numI t)):=by simp [gcdR,he]
  rw [e] at hq;obtain⟨h1,h2⟩:=zn.1 he;have b1:=jZ.2 (Zt h1);have b2:=jZ.2 (Zt h2);clear e he h1 h2 hs ht;generalize numI s=x0 at *
  generalize numI t=y0 at *
  refine zc.loop (ι:={z:Bool×Bool×Nat×Nat // Nat.gcd z.2.2.1 z.2.2.2=Nat.gcd x0 y0/\z.2.2.1<B^112/\z.2.2.2<B^112}) (λ_=>SGc) (λz=>HGc z.1.1 z.1.2.1 z.1.2.2.1 z.1.2.2.2) (λz=>z.1.2.2.2) ⟨(negI s,negI t,x0,y0),rfl,b1,b2⟩ 0 ?_ ?_ (by kernel_rfl)
  ·exact⟨by simp [SGc],by simp [HGc,magS,natS,za],by kernel_rfl,aI _⟩
  ·rintro⟨⟨m,n,x,y⟩,hg,hx,hy⟩;simp only at hg hx hy;refine zc.n G6.h [6,7] (let v2:=natG .u32 (canon y);let v1:=natG .u32 (canon x);.D ((0:Int)<((canon y).length:Int)) (.ex (q18 [.sl (canon x).length 1 v1,.sl (canon y).length 1 v2]) λn_1=>.all (λ(r:Nat×Nat)=>r=(n_1.1/n_1.2,n_1.1%n_1.2)) λn_2=>.leaf (.back 0 [(6,.ptr 0 0),(7,.ptr 1 0)] [.box [.bool m,.sl (canon y).length 1 v2],.box [.bool n,.sl (canon n_2.2).length 1 (natG .u32 (canon n_2.2))]])) (.ex (q19 [.agg [.bool false,.sl (canon x).length 1 v1]]) λn_1=>.all (λ(r:L8×Int)=>r=wr n_1.1 n_1.2) λn_2=>.R [.str n_2.1,.i n_2.2] [.box [.bool m,.sl (canon x).length 1 v1],.box [.bool n,.sl (canon y).length 1 v2]])) ?_;simp only [q18,q19,Tree.holds,zf,inR,lo,hi];refine⟨λh0=> ?_,λh0=> ?_⟩
   ·have hy0:0<y:=by
     rcases bC y with h | h
     ·rw [h] at h0; simp [canon] at h0
     ·exact h
    refine⟨(x,y),⟨by simp [za],?_,?_,hy0⟩,⟨_,rfl⟩,?_⟩
    ·have:=jZ.1 hx; show(canon x).length<100000; omega
    ·have:=jZ.1 hy; show(canon y).length<100000; omega
    rintro _ rfl;simp only;rw [aP trivial];refine⟨⟨(m,n,y,x%y),?_,hy,Nat.lt_trans (Nat.mod_lt x hy0) hy⟩,Nat.mod_lt x hy0,by simp [SGc],by simp [HGc,magS,natS,za],by kernel_rfl,aI _⟩;show Nat.gcd y (x%y)=Nat.gcd x0 y0;rw [<- hg,Nat.gcd_comm x y,Nat.gcd_rec y x,Nat.gcd_comm]
   ·have hy0:y=0:=uP.1 (by have h0:=aC h0; omega);subst hy0;refine⟨(false,x),⟨by simp [za],?_⟩,⟨_,rfl⟩,?_⟩
    ·have:=jZ.1 hx; show(canon x).length<1000000; omega
    rintro _ rfl;rw [Nat.gcd_zero_right] at hg;rw [<- hg] at hq;exact RetR.scal hq rfl (by simp [resV])
noncomputable def K114:=Go.Sx.aA f114
noncomputable def K181:=Go.Sx.aA f181
theorem yq{h:Heap}{i sz off n n':Nat}{g:Nat->Nat->AV}(hb:h[i]?=some (.arr n' sz g))(hn:off+n<=n'):exp0 h [] (.osl i sz off n) = .sl n sz (zi g off):=by
 simp [exp0,zO,frz1,wg,hb,hn]
theorem W0{h:Heap}{i sz off n n':Nat}{g:Nat->Nat->AV}(hb:h[i]?=some (.arr n' sz g))(hn:off+n<=n')(hs:∀ j o,j<n->o<sz->qw (zi g off j o)=true):new0 h [] (.osl i sz off n):=by
 simp only [new0];intro _;rw [yq hb hn];exact hs
theorem zae(k:IntKind)(l:List Nat)(off j o:Nat):qw (zi (natG k l) off j o)=true:=by
 simp [zi,natG,qw]
theorem zdd(g:Nat->Nat->AV):zi g 0=g:=by
 funext j o; simp [zi]
theorem RetR.nats{ctr:Ctr}{Q:AV×Heap->Prop}{h:Heap}{i:Nat}{k:IntKind}{l:List Nat}(hq:Q (natS k l,[]))(hb:h[i]?=some (.arr l.length 1 (natG k l))):RetR ctr 0 Q [.osl i 1 0 l.length] h:=by
 refine RetR.out0 hq (λ_=> ?_) ?_
 ·exact W0 hb (by omega) λj o _ _=>zae _ _ _ _ _
 ·have e:exp2 h [] (resV [.osl i 1 0 l.length])=exp0 h [] (.osl i 1 0 l.length):=rfl;rw [e,yq hb (by omega),zdd];simp [eqA2,natS,za]
abbrev nat6(l:List Nat):AV:=natS .i64 l
def atC:Ctr:=ctrP true (λp:List Nat×Nat=>[nat6 p.1,.i (p.2:Int)]) (λp=>True) (λp r=>r=p.1.getD p.2 0) (λ_ (r:Nat)=>(.i (r:Int),[]))
theorem zw6:ze prog 152 atC:=by
 refine zh' f152 λp hp O w0 Q hq=> ?_
 obtain⟨l,i⟩:=p;replace hq:=hq _ rfl;simp only at hq;refine zc.n zw [] (.D ((i:Int)<l.length) (.side ((0:Int)<=i/\(i:Int)<l.length) (.R [.int .i64 ↑(l.getD (i:Int).toNat 0)] [])) (.R [.i 0] [])) ?_;simp only [Tree.holds,zf,inR,lo,hi,aD];refine⟨λh=> ?_,λh=> ?_⟩
 ·have h:i<l.length:=by have:=aB h; omega
  exact⟨by omega,λ_=>RetR.scal hq rfl (by simp [resV])⟩
 ·have h:l.length<=i:=by have:=aC h; omega
  rw [vE h] at hq;exact RetR.scal hq rfl (by simp [resV])
def ZL:Ctr:=ctrP true (λp:List Nat×List Nat=>[nat6 p.1,nat6 p.2]) (λp=>Ten.dig p.1/\Ten.dig p.2/\p.1.length<2^62/\p.2.length<2^62) (λp r=>r=cmpN (Ten.val p.1) (Ten.val p.2)) (λ_ (r:Int)=>(.i r,[]))
def SGr(l m:List Nat)(i:Nat):KV:=[(0,nat6 l),(1,nat6 m),(5,.i ((i:Int) - 1))]
noncomputable def GR:=tb zw6 tz
abbrev q20(A:List AV)(x:List Nat×Nat):Prop:=eqL A [.sl x.1.length 1 (natG .i64 x.1),.i x.2]/\True
theorem uZ:ze prog 114 ZL:=by
 refine zh' f114 λp hp O w0 Q hq=> ?_
 obtain⟨l,m⟩:=p;obtain⟨hl,hm,hll,hml⟩:=hp;replace hq:=hq _ rfl;simp only at hq hl hm hll hml;refine zc.n GR.h [0,1,5] (let v1:=max (l.length:Int) (m.length:Int) - (1:Int);.S v1 (.leaf (.loop (lps K114 0).1 (lps K114 0).2 [(0,.sl l.length 1 (natG .i64 l)),(1,.sl m.length 1 (natG .i64 m)),(5,.i v1)] []))) ?_;simp only [Tree.holds,zf,inR,lo,hi,aD];refine⟨by omega,λ_=> ?_⟩;refine zc.loop (ι:={i:Nat // i<=max l.length m.length/\∀ j,i<=j->l.getD j 0=m.getD j 0}) (λi=>SGr l m i.1) (λ_=>[]) (λi=>i.1) ⟨max l.length m.length,aJ _,λj hj=>by rw [vE (by omega),vE (by omega)]⟩ 0 ?_ ?_ (by kernel_rfl)
 ·exact⟨by simp [SGr,natS,za]; omega,by simp,by kernel_rfl,aI _⟩
 ·rintro⟨i,hil,hie⟩;refine zc.n GR.h [0,1,5] (let v2:=q20 [.sl m.length 1 (natG .i64 m),.i (i-1)];let v1:=q20 [.sl l.length 1 (natG .i64 l),.i (i-1)];.D ((0:Int)<=i - (1:Int)) (.ex v1 λn=>.all (λ(r:Nat)=>r=List.getD n.1 n.2 0) λn=>.ex v2 λn_1=>.all (λ(r:Nat)=>r=List.getD n_1.1 n_1.2 0) λn_2=>.N ((n:Int)=n_2) (.ex v1 λn=>.all (λ(r:Nat)=>r=List.getD n.1 n.2 0) λn=>.ex v2 λn_3=>.all (λ(r:Nat)=>r=List.getD n_3.1 n_3.2 0) λn_4=>.D ((n_4:Int)<n) (.R [.i 1] []) (.R [.i (-1:Int)] [])) (.S (i-1-1) (.leaf (.back 0 [(0,.sl l.length 1 (natG .i64 l)),(1,.sl m.length 1 (natG .i64 m)),(5,.i (i-1-1))] [])))) (.R [.i 0] [])) ?_;simp only [q20,Tree.holds,zf,inR,lo,hi,aD];refine⟨λhlt=> ?_,λhge=> ?_⟩
  ·have hlt:0<i:=by have:=aB hlt; omega
   have e:(i:Int) - 1=((i - 1:Nat):Int):=by omega
   refine⟨(l,i - 1),⟨by simp [za,e],trivial⟩,⟨_,rfl⟩,?_⟩;rintro _ rfl;refine⟨(m,i - 1),⟨by simp [za,e],trivial⟩,⟨_,rfl⟩,?_⟩;rintro _ rfl;simp only;refine⟨λhne=> ?_,λheq=>⟨by omega,λ_=> ?_⟩⟩
   ·have hne:l.getD (i - 1) 0≠m.getD (i - 1) 0:=by
     intro h; rw [h] at hne; simp at hne
    have hab:∀ j,i - 1<j->l.getD j 0=m.getD j 0:=λj hj=>hie j (by omega)
    refine⟨(l,i - 1),⟨by simp [za,e],trivial⟩,⟨_,rfl⟩,?_⟩;rintro _ rfl;refine⟨(m,i - 1),⟨by simp [za,e],trivial⟩,⟨_,rfl⟩,?_⟩;rintro _ rfl;simp only;refine⟨λh=> ?_,λh=> ?_⟩
    ·have h:m.getD (i - 1) 0<l.getD (i - 1) 0:=by have:=aB h; omega
     have hv:=Kn hm (λj hj=>(hab j hj).symm) h;have:cmpN (Ten.val l) (Ten.val m)=1:=by simp only [cmpN]; rw [aO (by omega),aP hv]
     rw [this] at hq;exact RetR.scal hq rfl (by simp [resV])
    ·have h:l.getD (i - 1) 0<m.getD (i - 1) 0:=by have:=aC h; omega
     have hv:=Kn hl hab h;have:cmpN (Ten.val l) (Ten.val m) = -1:=by simp only [cmpN]; rw [aP hv]
     rw [this] at hq;exact RetR.scal hq rfl (by simp [resV])
   ·have heq:l.getD (i - 1) 0=m.getD (i - 1) 0:=by
     refine bM λh=> ?_
     have:¬ ((l.getD (i - 1) 0:Nat):Int)=((m.getD (i - 1) 0:Nat):Int):=by omega
     rw [aW this] at heq; cases heq
    rw [aP trivial];refine⟨⟨i - 1,by omega,λj hj=> ?_⟩,by show i - 1<i; omega,by simp [SGr,natS,za]; omega,by simp,by kernel_rfl,aI _⟩;rcases aR j i with h | h
    ·have:j=i - 1:=by omega
     rw [this]; exact heq
    ·exact hie j h
  ·have hge:i=0:=by have:=aC hge; omega
   subst hge;have hv:=JX hl hm λj=>hie j (aI _)
   have:cmpN (Ten.val l) (Ten.val m)=0:=by simp only [cmpN]; rw [aO (by omega),aO (by omega)]
   rw [this] at hq;exact RetR.scal hq rfl (by simp [resV])
def zui(p:List Nat×List Nat)(r:List Nat):Prop:=r.length=p.1.length/\Ten.dig r/\Ten.val r+Ten.val p.2=Ten.val p.1
def Y1:Ctr:=ctrP true (λp:List Nat×List Nat=>[nat6 p.1,nat6 p.2]) (λp=>Ten.dig p.1/\Ten.dig p.2/\p.1.length<2^40/\Ten.val p.2<=Ten.val p.1) zui (λ_ r=>(nat6 r,[]))
def SMi(l m o:List Nat)(b i:Nat):KV:=[(0,nat6 l),(1,nat6 m),(5,.osl 0 1 0 o.length),(6,.i (b:Int)),(7,.i (i:Int))]
theorem KU:ze prog 181 Y1:=by
 refine zh' f181 λp hp O w0 Q hq=> ?_
 obtain⟨l,m⟩:=p;obtain⟨hl,hm,hll,hml⟩:=hp;simp only at hq hl hm hll hml;refine zc.n GR.h [0,1,5,6,7] (.leaf (.loop (lps K181 0).1 (lps K181 0).2 [(0,.sl l.length 1 (natG .i64 l)),(1,.sl m.length 1 (natG .i64 m)),(5,.nils),(6,.i 0),(7,.i 0)] [])) ?_;simp only [Tree.holds,zf,inR,lo,hi,aD];refine zc.bear 5 1 (natG .i64 []) rfl (by decide) (by kernel_rfl) ?_;refine zc.loop (ι:={z:List Nat×Nat×Nat // z.1.length=z.2.2/\z.2.2<=l.length/\Ten.dig z.1/\z.2.1<=1/\Ten.val z.1+Ten.val (m.take z.2.2)=Ten.val (l.take z.2.2)+10^z.2.2*z.2.1}) (λz=>SMi l m z.1.1 z.1.2.1 z.1.2.2) (λz=>[.arr z.1.1.length 1 (natG .i64 z.1.1)]) (λz=>l.length - z.1.2.2) ⟨([],0,0),rfl,aI _,by simp [Ten.dig],aI _,by simp [Ten.val]⟩ 0 ?_ ?_ (by kernel_rfl)
 ·refine⟨by simp [SMi,natS,za,kC],by simp [za],by kernel_rfl,aI _⟩
 ·rintro⟨⟨o,b,i⟩,hol,hil,hod,hb,hv⟩;refine zc.n GR.h [0,1,5,6,7] (let v4:=inR .i64 (i+1);let v3:=o.length+1;.D ((i:Int)<l.length) (.side ((0:Int)<=i/\(i:Int)<l.length) (.ex (q20 [.sl m.length 1 (natG .i64 m),.i i]) λn=>.all (λ(r:Nat)=>r=List.getD n.1 n.2 0) λn=>let v2:=zj 1 [.i ((↑(l.getD (i:Int).toNat 0):Int) - n - (b:Int))];let v1:=zj 1 [.i ((↑(l.getD (i:Int).toNat 0):Int) - n - (b:Int)+(10:Int))];.S ((↑(l.getD (i:Int).toNat 0):Int) - n) (.S ((↑(l.getD (i:Int).toNat 0):Int) - n - (b:Int)) (.D ((↑(l.getD (i:Int).toNat 0):Int) - n - (b:Int)<0) (.S ((↑(l.getD (i:Int).toNat 0):Int) - n - (b:Int)+(10:Int)) (.side (0=0/\o.length<=o.length/\v3 *8<=140737488355328) (.side v4 (.leaf (.back 0 [(0,.sl l.length 1 (natG .i64 l)),(1,.sl m.length 1 (natG .i64 m)),(5,.osl 0 1 0 v3),(6,.i 1),(7,.i (i+1))] [.arr v3 1 (appG o.length (natG .i64 o) (zi v1 0)),.arr 1 1 v1]))))) (.side (0=0/\o.length<=o.length/\v3 *8<=140737488355328) (.side v4 (.leaf (.back 0 [(0,.sl l.length 1 (natG .i64 l)),(1,.sl m.length 1 (natG .i64 m)),(5,.osl 0 1 0 v3),(6,.i 0),(7,.i (i+1))] [.arr v3 1 (appG o.length (natG .i64 o) (zi v2 0)),.arr 1 1 v2])))))))) (.R [.osl 0 1 0 o.length] [.arr o.length 1 (natG .i64 o)])) ?_;simp only [q20,Tree.holds,zf,inR,lo,hi,aD];simp only at hol hil hod hb hv;refine⟨λhlt=> ?_,λhge=> ?_⟩
  ·have hlt:i<l.length:=by have:=aB hlt; omega
   refine⟨by omega,λ_=> ?_⟩;refine⟨(m,i),⟨by simp [za],trivial⟩,⟨_,rfl⟩,?_⟩;rintro _ rfl;simp only;have h1:l.getD i 0<10:=Ten.zP hl i;have h2:m.getD i 0<10:=Ten.zP hm i
   have step:∀ d b',d+m.getD i 0+b=l.getD i 0+10*b'->Ten.val (o++[d])+Ten.val (m.take (i+1))=Ten.val (l.take (i+1))+10^(i+1)*b':=by
    intro d b' h;rw [Ten.zN,Ten.zt,Ten.zt,hol,Nat.pow_succ];have:=zay hv h;simpa [Ten.val] using this
   obtain⟨x,hx⟩:∃ x,l.getD i 0=x:=⟨_,rfl⟩;obtain⟨y,hy⟩:∃ y,m.getD i 0=y:=⟨_,rfl⟩;simp only [hx,hy] at h1 h2 step ⊢
   iterate 2 refine⟨by clear step; omega,λ_=> ?_⟩
   have ei:((i:Int)+1)=((i+1:Nat):Int):=by omega
   refine⟨λhneg=> ?_,λhpos=> ?_⟩
   ·have hneg:x<y+b:=by have:=aB hneg; clear step; omega
    refine⟨by clear step; omega,λ_=> ?_⟩;refine⟨⟨trivial,aJ _,by clear step; omega⟩,λ_=>⟨by clear step; omega,λ_=> ?_⟩⟩;rw [aP trivial];obtain⟨d,hd⟩:∃ d,d+y+b=x+10:=⟨x+10 - y - b,by clear step; omega⟩;have hd2:(x:Int) - y - b+10=(d:Nat):=by clear step; omega
    refine⟨⟨(o++[d],1,i+1),by simp [hol],hlt,Ten.qF.2 ⟨hod,by simp only [Ten.dig,List.mem_singleton]; rintro _ rfl; show _<10; clear step; omega⟩,aJ _,step d 1 (by clear step; omega)⟩,by show l.length - (i+1)<l.length - i; omega,?_,jv hd2,by kernel_rfl,aI _⟩;simp [SMi,natS,za]
   ·have hpos:y+b<=x:=by have:=aC hpos; clear step; omega
    refine⟨⟨trivial,aJ _,by clear step; omega⟩,λ_=>⟨by clear step; omega,λ_=> ?_⟩⟩;rw [aP trivial];obtain⟨d,hd⟩:∃ d,d+y+b=x:=⟨x - y - b,by clear step; omega⟩;have hd2:(x:Int) - y - b=(d:Nat):=by clear step; omega
    refine⟨⟨(o++[d],0,i+1),by simp [hol],hlt,Ten.qF.2 ⟨hod,by simp only [Ten.dig,List.mem_singleton]; rintro _ rfl; show _<10; clear step; omega⟩,aI _,step d 0 (by clear step; omega)⟩,by show l.length - (i+1)<l.length - i; omega,?_,jv hd2,by kernel_rfl,aI _⟩;simp [SMi,natS,za]
  ·have hge:i=l.length:=by have:=aC hge; omega
   subst hge;exact RetR.nats (hq o ⟨hol,hod,zhx hl hod hol hml hv⟩) rfl
noncomputable def K165:=Go.Sx.aA f165
noncomputable def K113:=Go.Sx.aA f113
def zkp:Ctr:=ctrP true (λl:List Nat=>[nat6 l]) (λl=>Ten.dig l/\l.length<2^62) (λl r=>r=decide (Ten.val l=0)) (λ_ (r:Bool)=>(.bool r,[]))
noncomputable def GR1:=tb uZ tz
abbrev q21(A:List AV)(x:List Nat×List Nat):Prop:=eqL A [.sl x.1.length 1 (natG .i64 x.1),.sl x.2.length 1 (natG .i64 x.2)]/\Ten.dig x.1/\Ten.dig x.2/\x.1.length<4611686018427387904/\x.2.length<4611686018427387904
theorem zdk:ze prog 174 zkp:=by
 refine zh' f174 λl hp O w0 Q hq=> ?_
 obtain⟨hl,hll⟩:=hp;replace hq:=hq _ rfl;refine zc.n GR1.h [] (.ex (q21 [.sl l.length 1 (natG .i64 l),AV.nils]) λn=>.all (λ(r:Int)=>r=cmpN (Ten.val n.1) (Ten.val n.2)) λn=>.R [.bool (decide (n=0))] []) ?_;simp only [q21,Tree.holds,zf];refine⟨(l,[]),⟨by simp [za],hl,by simp [Ten.dig],hll,by simp⟩,⟨_,rfl⟩,?_⟩;rintro _ rfl
 have:decide (cmpN (Ten.val l) (Ten.val [])=0)=decide (Ten.val l=0):=by
  have e:Ten.val []=0:=rfl;rw [e];by_cases h:Ten.val l=0
  ·rw [h]; rfl
  ·have:cmpN (Ten.val l) 0=1:=by unfold cmpN; rw [aO (by omega),aP (by omega)]
   rw [this,aW h]; rfl
 rw [<- this] at hq;exact RetR.scal hq rfl (by simp [resV])
def Wu:Ctr:=ctrP true (λp:List Nat×Bool=>[nat6 p.1,.bool p.2]) (λp=>Ten.dig p.1/\p.1.length<2^40) (λp r=>r=wM p.2 (Ten.val p.1)) (λ_ r=>(.str r,[]))
def STx(l:List Nat)(neg:Bool)(n:Nat):KV:=[(0,nat6 l),(1,.bool neg),(5,.i (n:Int)),Z 6,Z 7,Z 13,Z 14,Z 15,Z 16,Z 17,Z 18]
def STy(l:List Nat)(neg:Bool)(n i:Nat)(b:List Nat):KV:=[(0,nat6 l),(1,.bool neg),(5,.i (n:Int)),(6,.osl 1 1 0 b.length),(7,.i ((i:Int) - 1)),Z 13,Z 14,Z 15,Z 16,Z 17,Z 18]
theorem Kb{O:Nat->Prop}{w0:World}{Q:AV×Heap->Prop}{Hs:Nat->KV->Heap->Prop}(l:List Nat)(neg:Bool)(n:Nat)(hl:Ten.dig l)(hll:l.length<2^40)(hn:n<=l.length)(ht:n=Ten.tlen l)(h0:0<n)(hq:Q (.str (wM neg (Ten.val l)),[]))(kv:KV)(h:Heap)
  (hle:LeK 0 f165.ntmps kv h (STy l neg n n (tbL l neg n n)) [.dead,.arr (tbL l neg n n).length 1 (natG .u8 (tbL l neg n n))]) :
  zc prog f165 O 0 w0 [] Hs (RetR Wu 0 Q) (.code (.loop (lps (inside K165 0) 0).1)::(lps (inside K165 0) 0).2) (mk f165.ntmps kv h):=by
 refine zc.loop (ι:={i:Nat // i<=n}) (λi=>STy l neg n i.1 (tbL l neg n i.1)) (λi=>[.dead,.arr (tbL l neg n i.1).length 1 (natG .u8 (tbL l neg n i.1))]) (λi=>i.1) ⟨n,aJ _⟩ 0 hle ?_ (by kernel_rfl);rintro⟨i,hin⟩;obtain⟨b,hb⟩:∃ b,tbL l neg n i=b:=⟨_,rfl⟩;have hbl:=zqy l neg n i;simp only [hb] at hbl ⊢;refine zc.n zw [0,1,5,6,7,13,14,15,16,17,18] (let v1:=Int.toNat (i-1);let v2:=zj 1 [.int .u8 ((48:Int)+(↑(l.getD v1 0):Int))];.D ((0:Int)<=i - (1:Int)) (.side ((0:Int)<=i - (1:Int)/\(i:Int) - (1:Int)<l.length) (.S ((48:Int)+(↑(l.getD v1 0):Int)) (.side (inR .u8 ((48:Int)+(↑(l.getD v1 0):Int))) (.side (0=0/\b.length<=b.length/\(b.length+1)*1<=140737488355328) (.S (i-1-1) (.leaf (.back 0 [(0,.sl l.length 1 (natG .i64 l)),(1,.bool neg),(5,.i n),(6,.osl 1 1 0 (b.length+1)),(7,.i (i-1-1)),Z 13,Z 14,Z 15,Z 16,Z 17,Z 18] [.dead,.arr (b.length+1) 1 (appG b.length (natG .u8 b) (zi v2 0)),.arr 1 1 v2]))))))) (.side (∀ (j:Nat),j<b.length->∃ (b_1:UInt8),AV.int .u8 ↑(b.getD (0+j) 0)=AV.int .u8 ↑(UInt8.toNat b_1)) (.R [.str (xA b.length (zi (natG .u8 b) 0))] [.dead,.arr b.length 1 (natG .u8 b)]))) ?_;simp only [Tree.holds,zf,inR,lo,hi,aD];refine⟨λhge=> ?_,λhlt=> ?_⟩
 ·have hi0:0<i:=by have:=aB hge; omega
  have e:((i:Int) - 1).toNat=i - 1:=by omega
  have hd:l.getD (i - 1) 0<10:=Ten.zP hl (i - 1);have hst:=zjb (l:=l) (neg:=neg) hi0 hin hn;rw [hb] at hst;rw [e];obtain⟨x,hx⟩:∃ x,l.getD (i - 1) 0=x:=⟨_,rfl⟩;simp only [hx] at hd hst ⊢
  iterate 3 refine⟨by omega,λ_=> ?_⟩
  refine⟨⟨trivial,aJ _,by omega⟩,λ_=>⟨by omega,λ_=> ?_⟩⟩;rw [aP trivial];refine⟨⟨i - 1,by omega⟩,by show i - 1<i; omega,?_,?_,by kernel_rfl,aI _⟩
  ·simp only [<- hst];simp [STy,natS,za]; omega
  ·simp only [<- hst];exact⟨trivial,jv (d:=48+x) (by omega)⟩
 ·have hi0:i=0:=by have:=aC hlt; omega
  subst hi0;refine⟨λj hj=>⟨UInt8.ofNat (b.getD (0+j) 0),?_⟩,λ_=> ?_⟩
  ·have:=zvu hl neg n 0 (0+j);rw [hb] at this;have e2:(UInt8.ofNat (b.getD (0+j) 0)).toNat=b.getD (0+j) 0:=by rw [UInt8.toNat_ofNat']; exact Nat.mod_eq_of_lt this
   rw [e2]
  ·rw [Zq _ _ _ (aJ _),bD,<- hb,zbu hl ht h0];exact RetR.scal hq rfl (by simp [resV])
theorem JU:ze prog 165 Wu:=by
 refine zh' f165 λp hp O w0 Q hq=> ?_
 obtain⟨l,neg⟩:=p;obtain⟨hl,hll⟩:=hp;replace hq:=hq _ rfl;simp only at hq hl hll;refine zc.n zw [0,1,5,6,7,13,14,15,16,17,18] (.leaf (.loop (lps K165 0).1 (lps K165 0).2 [(0,.sl l.length 1 (natG .i64 l)),(1,.bool neg),(5,.i l.length),Z 6,Z 7,Z 13,Z 14,Z 15,Z 16,Z 17,Z 18] [])) ?_;simp only [Tree.holds,zf];refine zc.loop (ι:={n:Nat // n<=l.length/\Ten.tlen l<=n}) (λn=>STx l neg n.1) (λ_=>[]) (λn=>n.1) ⟨l.length,aJ _,Ten.qo l⟩ 0 ?_ ?_ (by kernel_rfl)
 ·exact⟨by simp [STx,natS,za],by simp,by kernel_rfl,aI _⟩
 ·rintro⟨n,hn,ht⟩;refine zc.n zw [0,1,5,6,7,13,14,15,16,17,18] (let v2:=lps (inside K165 0) 0;let v1:=inR .i64 (n-1);.side (decide ((0:Int)<n)=true->inR .i64 (n-1)) (.side (decide ((0:Int)<n)=true->(0:Int)<=n - (1:Int)/\(n:Int) - (1:Int)<l.length) (.ite (bif decide ((0:Int)<n) then decide ((↑(l.getD (Int.toNat (n-1)) 0):Int)=0) else false) (.side v1 (.leaf (.back 0 [(0,.sl l.length 1 (natG .i64 l)),(1,.bool neg),(5,.i (n-1)),Z 6,Z 7,Z 13,Z 14,Z 15,Z 16,Z 17,Z 18] []))) (.D ((n:Int)=0) (.R [.str #[(48:UInt8)].toList] []) (.ite neg (.side (1<=140737488355328) (.side v1 (.leaf (.loop v2.1 v2.2 [(0,.sl l.length 1 (natG .i64 l)),(1,.bool neg),(5,.i n),(6,.osl 1 1 0 1),(7,.i (n-1)),Z 13,Z 14,Z 15,Z 16,Z 17,Z 18] [.arr 1 1 (zj 1 [.int .u8 45]),.arr 1 1 (zi (zj 1 [.int .u8 45]) 0)])))) (.side v1 (.leaf (.loop v2.1 v2.2 [(0,.sl l.length 1 (natG .i64 l)),(1,.bool neg),(5,.i n),(6,.nils),(7,.i (n-1)),Z 13,Z 14,Z 15,Z 16,Z 17,Z 18] [])))))))) ?_;simp only [Tree.holds,zf,inR,lo,hi,aD];refine⟨by omega,λ_=>⟨λh=>by have:=aB h; omega,λ_=>⟨λhz=> ?_,λhz=> ?_⟩⟩⟩
  ·have hn0:0<n:=by
    rcases bC n with h | h
    ·subst h; simp at hz
    ·exact h
   have e:((n:Int) - 1).toNat=n - 1:=by omega
   have hz:l.getD (n - 1) 0=0:=by
    rw [aX (by omega),e] at hz;have:=aB hz;omega
   refine⟨by omega,λ_=> ?_⟩;rw [aP trivial];refine⟨⟨n - 1,by omega,?_⟩,by show n - 1<n; omega,by simp [STx,natS,za]; omega,by simp,by kernel_rfl,aI _⟩;refine Nat.le_of_not_lt λhlt=> ?_
   have hnt:n=Ten.tlen l:=by omega
   subst hnt;exact Ten.q9 l hn0 hz
  ·have e:((n:Int) - 1).toNat=n - 1:=by omega
   have hnt:n=Ten.tlen l:=by
    rcases bC n with h | h
    ·omega
    ·refine Nat.le_antisymm (Nat.le_of_not_lt λhlt=> ?_) ht;have:=Ten.js l (n - 1) (by omega);rw [aX (by omega),e,this] at hz;simp at hz
   refine⟨λh0=> ?_,λh0=> ?_⟩
   ·have h0:n=0:=by have:=aB h0; omega
    rw [zic (by omega)] at hq;exact RetR.scal hq rfl (by simp [resV])
   ·have h0:0<n:=by have:=aC h0; omega
    refine⟨λhneg=>⟨by omega,λ_=>⟨by omega,λ_=> ?_⟩⟩,λhneg=>⟨by omega,λ_=> ?_⟩⟩
    ·subst hneg;refine Kb l true n hl hll hn hnt h0 hq _ _ ⟨?_,?_,by kernel_rfl,aI _⟩
     ·simp [STy,natS,za,JF]
     ·simp only [JF,if_true,List.length_singleton];refine⟨trivial,⟨rfl,rfl,?_⟩,trivial⟩;intro j o hj ho;simpa [zi] using xz .u8 45 j o hj ho
    ·subst hneg;refine zc.void (by kernel_rfl) ?_;refine zc.bear 6 1 (natG .u8 []) rfl (by decide) (by kernel_rfl) ?_;refine Kb l false n hl hll hn hnt h0 hq _ _ ⟨?_,?_,by kernel_rfl,aI _⟩
     ·simp [STy,natS,za,JF,kC]
     ·simp [JF,za]
def xL:Ctr:=ctrP true (λs:L8=>[.str s]) (λs=>s.length<2^40) (λs r=>r=digR s) (λ_ r=>(.tup [nat6 r.1,.bool r.2.1,.bool r.2.2],[]))
def SDi(b:L8)(neg:Bool)(i:Nat)(o:List Nat):KV:=[(5,.str b),(6,.bool neg),(7,.osl 0 1 0 o.length),(8,.i ((i:Int) - 1)),Z 49,Z 50,Z 51,Z 52]
theorem Jg{O:Nat->Prop}{w0:World}{Q:AV×Heap->Prop}{Hs:Nat->KV->Heap->Prop}(b:L8)(neg:Bool)(hbl:b.length<2^40)(hb0:b≠[])(hf:b.all isD=true->q8 neg b=true)
  (hq:Q (.tup [nat6 (if q8 neg b then(dg b,neg,true) else([],false,false)).1,.bool (if q8 neg b then(dg b,neg,true) else([],false,false)).2.1,.bool (if q8 neg b then(dg b,neg,true) else([],false,false)).2.2],[])) :
  zc prog f113 O 0 w0 [] Hs (RetR xL 0 Q) (.code (.loop (lps K113 0).1)::(lps K113 0).2) (mk f113.ntmps [(5,.str b),(6,.bool neg),(7,.nils),(8,.i ((b.length:Int) - 1)),Z 49,Z 50,Z 51,Z 52] []):=by
 refine zc.bear 7 1 (natG .i64 []) rfl (by decide) (by kernel_rfl) ?_;refine zc.loop (ι:={i:Nat // i<=b.length/\∀ j,i<=j->j<b.length->isD (b.getD j 0)=true}) (λi=>SDi b neg i.1 (dg (b.drop i.1))) (λi=>[.arr (dg (b.drop i.1)).length 1 (natG .i64 (dg (b.drop i.1)))]) (λi=>i.1) ⟨b.length,aJ _,λj h1 h2=>by omega⟩ 0 ?_ ?_ (by kernel_rfl)
 ·exact⟨by simp [SDi,kC,dg],by simp [dg,za],by kernel_rfl,aI _⟩
 ·rintro⟨i,hil,hid⟩;have hdl:(dg (b.drop i)).length=b.length - i:=by rw [xM,bV]
  obtain⟨o,ho⟩:∃ o,dg (b.drop i)=o:=⟨_,rfl⟩;simp only [ho] at hdl ⊢;refine zc.n zw [5,6,7,8,49,50,51,52] (let v1:=b.getD (Int.toNat (i-1)) (0:UInt8);let v2:=zj 1 [.i ((↑(UInt8.toNat v1):Int) - (48:Int))];.D ((0:Int)<=i - (1:Int)) (.side ((0:Int)<=i - (1:Int)/\(i:Int) - (1:Int)<b.length) (.side (decide ((↑(UInt8.toNat v1):Int)<48)=false->(0:Int)<=i - (1:Int)/\(i:Int) - (1:Int)<b.length) (.ite (bif decide ((↑(UInt8.toNat v1):Int)<48) then true else decide ((57:Int)<(↑(UInt8.toNat v1):Int))) (.R [.nils,.bool false,.bool false] [.arr o.length 1 (natG .i64 o)]) (.side ((0:Int)<=i - (1:Int)/\(i:Int) - (1:Int)<b.length) (.side (inR .u8 ((↑(UInt8.toNat v1):Int) - (48:Int))) (.S ((↑(UInt8.toNat v1):Int) - (48:Int)) (.side (0=0/\o.length<=o.length/\(o.length+1)*8<=140737488355328) (.S (i-1-1) (.leaf (.back 0 [(5,.str b),(6,.bool neg),(7,.osl 0 1 0 (o.length+1)),(8,.i (i-1-1)),Z 49,Z 50,Z 51,Z 52] [.arr (o.length+1) 1 (appG o.length (natG .i64 o) (zi v2 0)),.arr 1 1 v2])))))))))) (.R [.osl 0 1 0 o.length,.bool neg,.bool true] [.arr o.length 1 (natG .i64 o)])) ?_;simp only [Tree.holds,zf,inR,lo,hi,aD,Bool.cond_eq_ite];refine⟨λhge=> ?_,λhlt=> ?_⟩
  ·have hi0:0<i:=by have:=aB hge; omega
   have e:((i:Int) - 1).toNat=i - 1:=by omega
   have hst:=zrz hi0 hil;rw [ho] at hst;simp only [e];refine⟨by omega,λ_=>⟨λ_=>by omega,λ_=>⟨λhbad=> ?_,λhgood=>⟨by omega,λ_=> ?_⟩⟩⟩⟩
   ·rw [yS] at hbad
    have hnf:q8 neg b=false:=by
     have:b.all isD=false:=by
      rw [List.all_eq_false];have hib:i - 1<b.length:=by omega
      refine⟨b.getD (i - 1) 0,by simp [List.getD,hib],by simpa using hbad⟩
     simp [q8,this]
    rw [hnf] at hq;refine RetR.out0 hq (λ_=> ?_) ?_
    ·simp [resV,new2,new1,new0,qw]
    ·simp [resV,exp2,exp1,exp0,ren0,eqA2,eqL1,eqA,eqA0,natS]
   ·rw [yS] at hgood;have hd:isD (b.getD (i - 1) 0)=true:=by simpa using hgood
    have hc:48<=(b.getD (i - 1) 0).toNat/\(b.getD (i - 1) 0).toNat<=57:=by simpa [isD] using hd
    obtain⟨c,hcc⟩:∃ c,(b.getD (i - 1) 0).toNat=c:=⟨_,rfl⟩;simp only [hcc] at hc hst ⊢
    iterate 2 refine⟨by omega,λ_=> ?_⟩
    refine⟨⟨trivial,aJ _,by omega⟩,λ_=>⟨by omega,λ_=> ?_⟩⟩;rw [aP trivial];refine⟨⟨i - 1,by omega,λj h1 h2=> ?_⟩,by show i - 1<i; omega,?_,?_,by kernel_rfl,aI _⟩
    ·rcases aR j i with h | h
     ·have:j=i - 1:=by omega
      subst this; exact hd
     ·exact hid j h h2
    ·simp only [<- hst];simp [SDi]; omega
    ·simp only [<- hst];exact jv (d:=c - 48) (by omega)
  ·have hi0:i=0:=by have:=aC hlt; omega
   subst hi0
   have hall:b.all isD=true:=by
    rw [bG];intro c hc;obtain⟨j,hj,rfl⟩:=List.getElem_of_mem hc;have:=hid j (aI _) hj;simpa [List.getD,hj] using this
   rw [hf hall] at hq;have ho:dg b=o:=ho;simp only [if_true,ho] at hq;have hb:([.arr o.length 1 (natG .i64 o)]:Heap)[0]?=some (.arr o.length 1 (natG .i64 o)):=rfl;refine RetR.out0 hq (λ_=> ?_) ?_
   ·simp only [resV,new2,aM,List.not_mem_nil,or_false,forall_eq_or_imp,forall_eq];exact⟨W0 hb (by omega) λj o _ _=>zae _ _ _ _ _,rfl,rfl⟩
   ·simp only [resV,exp2,List.map_cons,List.map_nil,exp1];rw [yq hb (by omega),zdd];simp [eqA2,eqL1,eqA,eqA0,natS,za,exp0,ren0]
theorem uO:ze prog 113 xL:=by
 refine zh' f113 λs hs O w0 Q hq=> ?_
 replace hq:=hq _ rfl;refine zc.n zw [5,6,7,8,49,50,51,52] (let v5:=lps K113 0;let v4:qe:=.ret [.nils,.bool false,.bool false] [];let v3:=s.getD 0 (0:UInt8);let v2:=bif decide ((0:Int)<s.length) then decide ((↑(UInt8.toNat v3):Int)=45) else false;let v1:=List.drop 1 (List.take s.length s);.side (decide ((0:Int)<s.length)=true->(0:Int)<=0/\(0:Int)<s.length) (.ite v2 (.side ((0:Int)<=1/\(1:Int)<=s.length) (.side (decide ((↑(List.length v1):Int)=0)=false->(0:Int)<=0/\(0:Int)<(↑(List.length v1):Int)) (.ite (bif decide ((↑(List.length v1):Int)=0) then true else bif decide ((↑(UInt8.toNat (List.getD v1 0 (0:UInt8))):Int)=48) then bif decide ((1:Int)<(↑(List.length v1):Int)) then true else bif decide ((0:Int)<s.length) then decide ((↑(UInt8.toNat v3):Int)=45) else false else false) (.leaf v4) (.S ((↑(List.length v1):Int) - (1:Int)) (.leaf (.loop v5.1 v5.2 [(5,.str v1),(6,.bool v2),(7,.nils),(8,.i ((↑(List.length v1):Int) - (1:Int))),Z 49,Z 50,Z 51,Z 52] [])))))) (.side (decide ((s.length:Int)=0)=false->(0:Int)<=0/\(0:Int)<s.length) (.ite (bif decide ((s.length:Int)=0) then true else bif decide ((↑(UInt8.toNat v3):Int)=48) then bif decide ((1:Int)<s.length) then true else bif decide ((0:Int)<s.length) then decide ((↑(UInt8.toNat v3):Int)=45) else false else false) (.leaf v4) (.S (s.length-1) (.leaf (.loop v5.1 v5.2 [(5,.str s),(6,.bool v2),(7,.nils),(8,.i (s.length-1)),Z 49,Z 50,Z 51,Z 52] []))))))) ?_
 have bad:∀ h,digR s=([],false,false)->RetR xL 0 Q [.nils,.bool false,.bool false] h:=by
  intro h he;rw [he] at hq;refine RetR.out0 hq (λ_=> ?_) ?_
  ·simp [resV,new2,new1,new0,qw]
  ·simp [resV,exp2,exp1,exp0,ren0,eqA2,eqL1,eqA,eqA0,natS]
 have core:∀ neg b,parse s=(neg,b)->(if decide ((b.length:Int)=0)=true then true else if decide (((b.getD 0 0).toNat:Int)=48)=true then if decide (1<(b.length:Int))=true then true else neg else false)=true->digR s=([],false,false):=by
  intro neg b hp h
  have:q8 neg b=false:=by
   by_cases hb:b=[]
   ·subst hb; simp [q8]
   ·have hl:¬ b.length=0:=by simpa using hb
    rw [aO (by simpa using hl)] at h;split at h
    ·rename_i h48;have h48:b.getD 0 0=48:=ZY (aB h48);split at h
     ·rename_i h1; exact kz h48 (by have:=aB h1; omega)
     ·rename_i h1;subst h
      have:b=[48]:=by
       cases b with
       | nil=>exact absurd rfl hb
       | cons c b=>
        have hl1:b=[]:=by
         refine aU.1 ?_;have:¬ 1<(((c::b).length:Nat):Int):=λh=>h1 (aX h)
         simp only [aL] at this; omega
        subst hl1;simp at h48; rw [h48]
      subst this; rfl
    ·cases h
  simp [digR,hp,this]
 have good:∀ neg b,parse s=(neg,b)->(if decide ((b.length:Int)=0)=true then true else if decide (((b.getD 0 0).toNat:Int)=48)=true then if decide (1<(b.length:Int))=true then true else neg else false)=false->b≠[]/\(b.all isD=true->q8 neg b=true):=by
  intro neg b hp h;have hb:b≠[]:=by rintro rfl; simp at h
  refine⟨hb,λhall=> ?_⟩;have hl:¬ b.length=0:=by simpa using hb
  rw [aO (by simpa using hl)] at h;simp only [q8,hall,hb,Bool.and_true];simp only [decide_false,Bool.not_false,Bool.true_and];split at h
  ·rename_i h48;split at h
   ·cases h
   ·rename_i h1;subst h;have:(decide (1<b.length))=false:=aW λh=>h1 (aX (by omega))
    simp only [this,Bool.false_and,Bool.and_false,Bool.not_false,Bool.and_self]
  ·rename_i h48
   have e1:decide (b.getD 0 0=48)=false:=by
    refine aW λh=>h48 ?_
    rw [h]; rfl
   have e2:decide (b=[48])=false:=by
    refine aW λh=>h48 ?_
    rw [h]; rfl
   simp only [e1,e2,Bool.false_and,Bool.and_false,Bool.not_false,Bool.and_self]
 simp only [Tree.holds,zf,inR,lo,hi,Bool.cond_eq_ite];refine⟨λh=>by have:=aB h; omega,λ_=>⟨λhneg=> ?_,λhneg=> ?_⟩⟩
 ·simp only [hneg]
  obtain⟨b,rfl⟩:∃ b,s=45::b:=by
   cases s with
   | nil=>simp at hneg
   | cons c b=>
    have:c=45:=by
     have:((c.toNat:Nat):Int)=45:=by simpa using hneg
     exact ZY this
    exact⟨b,by rw [this]⟩
  have hd:List.drop 1 (List.take (45::b).length (45::b))=b:=by simp
  rw [hd];have hp:parse (45::b)=(true,b):=rfl;refine⟨by simp; omega,λ_=>⟨λh=>by have:=aC h; omega,λ_=>⟨λh=>bad _ (core true b hp h),λh=>⟨by simp at hs; omega,λ_=> ?_⟩⟩⟩⟩;obtain⟨g1,g2⟩:=good true b hp h;refine Jg b true (by simp at hs; omega) g1 g2 ?_;simpa only [digR,hp] using hq
 ·simp only [hneg]
  have hp:parse s=(false,s):=by
   cases s with
   | nil=>rfl
   | cons c b=>
    have:c≠45:=by
     rintro rfl; simp at hneg
    simp [parse,this]
  refine⟨λh=>by have:=aC h; omega,λ_=>⟨λh=>bad _ (core false s hp h),λh=>⟨by omega,λ_=> ?_⟩⟩⟩;obtain⟨g1,g2⟩:=good false s hp h;refine Jg s false hs g1 g2 ?_;simpa only [digR,hp] using hq
noncomputable def K175:=Go.Sx.aA f175
noncomputable def GR2:=tb uO tz
def Xs:Ctr:=ctrP true (λs:L8=>[.str s]) (λs=>s.length<2^40) (λs r=>r=errI s) (λ_ (r:Int)=>(.i r,[]))
abbrev q22(A:List AV)(x:L8):Prop:=eqL A [.str x]/\x.length<1099511627776
theorem Kj:ze prog 151 Xs:=by
 refine zh' f151 λs hs O w0 Q hq=> ?_
 replace hq:=hq _ rfl;refine zc.n GR2.h [] (.ex (q22 [.str s]) λn=>.all (λ(r:List Nat×Bool×Bool)=>r=digR n) λn=>.ite (!Prod.snd n.2) (.R [.i 12] []) (.D ((1000:Int)<n.1.length) (.R [.i 14] []) (.R [.i 0] []))) ?_;simp only [q22,Tree.holds,zf];refine⟨s,⟨by simp,hs⟩,⟨_,rfl⟩,?_⟩;rintro _ rfl;unfold errI at hq;unfold digR;cases hf:q8 (parse s).1 (parse s).2 with
 | false=>
  rw [hf] at hq;exact⟨λ_=>RetR.scal hq rfl (by simp [resV]),λh=>by simp at h⟩
 | true=>
  rw [hf,aP rfl] at hq;refine⟨λh=>by simp at h,λ_=>⟨λh=> ?_,λh=> ?_⟩⟩
  ·have h:1000<(parse s).2.length:=by simp [xM] at h; omega
   rw [aP h] at hq;exact RetR.scal hq rfl (by simp [resV])
  ·have h:¬ 1000<(parse s).2.length:=by simp [xM] at h; omega
   rw [aO h] at hq;exact RetR.scal hq rfl (by simp [resV])
noncomputable def GR3:=tb Kj tz
def zlu:Ctr:=ctrP true (λp:L8×L8=>[.str p.1,.str p.2]) (λp=>p.1.length<2^40/\p.2.length<2^40) (λp r=>r=zx p.1 p.2) (λ_ (r:Int)=>(.i r,[]))
theorem zdf:ze prog 112 zlu:=by
 refine zh' f112 λp hp O w0 Q hq=> ?_
 obtain⟨s,t⟩:=p;obtain⟨hs,ht⟩:=hp;replace hq:=hq _ rfl;simp only at hs ht hq;refine zc.n GR3.h [] (.ex (q22 [.str s]) λn=>.all (λ(r:Int)=>r=errI n) λn=>.N (n=0) (.ex (q22 [.str s]) λn=>.all (λ(r:Int)=>r=errI n) λn=>.R [.i n] []) (.ex (q22 [.str t]) λn=>.all (λ(r:Int)=>r=errI n) λn=>.R [.i n] [])) ?_;simp only [q22,Tree.holds,zf];unfold zx at hq;refine⟨s,⟨by simp,hs⟩,⟨_,rfl⟩,?_⟩;rintro _ rfl;refine⟨λh=> ?_,λh=> ?_⟩
 ·have h:¬ errI s=0:=by simpa using h
  rw [aO h] at hq;refine⟨s,⟨by simp,hs⟩,⟨_,rfl⟩,?_⟩;rintro _ rfl;exact RetR.scal hq rfl (by simp [resV])
 ·have h:errI s=0:=by simpa using h
  rw [aP h] at hq;refine⟨t,⟨by simp,ht⟩,⟨_,rfl⟩,?_⟩;rintro _ rfl;exact RetR.scal hq rfl (by simp [resV])
noncomputable def GR4:=tb KU (tb uZ tz)
def zlk(p:List Nat×List Nat)(r:List Nat×List Nat):Prop:=r.1.length=p.1.length/\Ten.dig r.1/\Ten.val r.1=Ten.val p.1/Ten.val p.2/\r.2.length<=p.1.length/\Ten.dig r.2/\Ten.val r.2=Ten.val p.1%Ten.val p.2
def UB:Ctr:=ctrP false (λp:List Nat×List Nat=>[nat6 p.1,nat6 p.2]) (λp=>Ten.dig p.1/\Ten.dig p.2/\p.1.length<2^38/\p.2.length<2^38/\0<Ten.val p.2) zlk (λ_ r=>(.tup [nat6 r.1,nat6 r.2],[]))
def SRd(l m:List Nat)(n:Nat):KV:=[(0,nat6 l),(1,nat6 m),(6,.i (n:Int)),Z 7,Z 8,Z 9,Z 15,Z 16,Z 17,Z 18,Z 19,Z 20]
def qz(i:Nat)(qs:List Nat):List Nat:=List.replicate i 0++qs
def SRo(l m qs r:List Nat)(i:Nat):KV:=[(0,nat6 l),(1,nat6 m),(6,.i (m.length:Int)),(7,.osl 0 1 0 l.length),(8,nat6 r),(9,.i ((i:Int) - 1)),Z 15,Z 16,Z 17,Z 18,Z 19,Z 20]
theorem zil{k:IntKind}{x n:Nat}{r:List Nat}(hn:n<=1+r.length):eqG n 1 (zi (appG 1 (zj 1 [.int k (x:Int)]) (natG k r)) 0) (natG k ((x::r).take n)):=by
 intro j o hj ho;have ho:o=0:=by omega
 subst ho;simp only [zi,appG,zj,natG,Nat.zero_add];rw [ZZ hj];by_cases h:j<1
 ·have:j=0:=by omega
  subst this; simp
 ·obtain⟨i,rfl⟩:∃ i,j=i+1:=⟨j - 1,by omega⟩;simp
def SRn(l m r:List Nat)(p:Nat):KV:=[(0,nat6 l),(1,nat6 m),(6,.i (m.length:Int)),(7,.osl 0 1 0 l.length),(8,nat6 r),(9,.i (p:Int)),Z 15,Z 16,Z 17,Z 18,Z 19,Z 20]
theorem zbl{O:Nat->Prop}{w0:World}{Hs:Nat->KV->Heap->Prop}{R:List AV->Heap->Prop}(l m qs r0:List Nat)(p V:Nat)(hm:Ten.dig m)(hll:l.length<2^38)(hml:m.length<2^38)(hm0:0<Ten.val m)(hp:p<l.length)
  (hql:qs.length+(p+1)=l.length) (hV:V<10*Ten.val m) (hrd:Ten.dig r0) (hrl:r0.length<=m.length+1) (hrv:Ten.val r0=V)
  (hback:∀ k r,k<10->Ten.dig r->r.length=r0.length->Ten.val r<Ten.val m->V=k*Ten.val m+Ten.val r->∀ kv h,LeK 0 f175.ntmps kv h (SRo l m (k::qs) r p) [.arr l.length 1 (natG .i64 (qz p (k::qs)))]->Hs 0 kv h)
  (kv:KV) (h:Heap) (hle:LeK 0 f175.ntmps kv h (SRn l m r0 p) [.arr l.length 1 (natG .i64 (qz p (0::qs)))]) :
  zc prog f175 O 0 w0 [] Hs R (.code (.loop (lps (inside (inside K175 0) 0) 0).1)::(lps (inside (inside K175 0) 0) 0).2) (mk f175.ntmps kv h):=by
 refine zc.loop (ι:={z:Nat×List Nat // Ten.dig z.2/\z.2.length=r0.length/\V=z.1*Ten.val m+Ten.val z.2}) (λz=>SRn l m z.1.2 p) (λz=>[.arr l.length 1 (natG .i64 (qz p (z.1.1::qs)))]) (λz=>Ten.val z.1.2) ⟨(0,r0),hrd,rfl,by simp [hrv]⟩ 1 hle ?_ (by kernel_rfl);rintro⟨⟨k,r⟩,hrd2,hrl2,hv⟩;simp only at hrd2 hrl2 hv
 have hk:k<10:=by
  refine Nat.lt_of_not_le λh=> ?_
  have:10*Ten.val m<=k*Ten.val m:=aT _ h;omega
 have hqp:(qz p (k::qs)).getD p 0=k:=by rw [qz,xC (by simp)]; simp
 have hset:(qz p (k::qs)).set p (k+1)=qz p ((k+1)::qs):=by
  simp [qz,List.set_append]
 have hqln:(qz p (k::qs)).length=l.length:=by simp [qz]; omega
 obtain⟨q,hq⟩:∃ q,qz p (k::qs)=q:=⟨_,rfl⟩;simp only [hq] at hqp hset hqln ⊢;refine zc.n GR4.h [0,1,6,7,8,9,15,16,17,18,19,20] (let v1:=[AV.sl r.length 1 (natG .i64 r),AV.sl m.length 1 (natG .i64 m)];.ex (q21 v1) λn=>.all (λ(r:Int)=>r=cmpN (Ten.val n.1) (Ten.val n.2)) λn=>.D ((0:Int)<=n) (.ex (λ(x:List Nat×List Nat)=>eqL v1 [.sl x.1.length 1 (natG .i64 x.1),.sl x.2.length 1 (natG .i64 x.2)]/\Ten.dig x.1/\Ten.dig x.2/\x.1.length<1099511627776/\Ten.val x.2<=Ten.val x.1) λn=>.all (λ(r:List Nat)=>r.length=n.1.length/\Ten.dig r/\Ten.val r+Ten.val n.2=Ten.val n.1) λn=>.side ((0:Int)<=p/\(p:Int)<l.length) (.S ((↑(q.getD (0+Int.toNat p) 0):Int)+(1:Int)) (.side ((0:Int)<=p/\(p:Int)<l.length) (.leaf (.back 1 [(0,.sl l.length 1 (natG .i64 l)),(1,.sl m.length 1 (natG .i64 m)),(6,.i m.length),(7,.osl 0 1 0 l.length),(8,.sl n.length 1 (natG .i64 n)),(9,.i p),Z 15,Z 16,Z 17,Z 18,Z 19,Z 20] [.arr l.length 1 (updG (natG .i64 q) (0+Int.toNat p) 0 [.i ((↑(q.getD (0+Int.toNat p) 0):Int)+(1:Int))])]))))) (.S (p-1) (.leaf (.back 0 [(0,.sl l.length 1 (natG .i64 l)),(1,.sl m.length 1 (natG .i64 m)),(6,.i m.length),(7,.osl 0 1 0 l.length),(8,.sl r.length 1 (natG .i64 r)),(9,.i (p-1)),Z 15,Z 16,Z 17,Z 18,Z 19,Z 20] [.arr l.length 1 (natG .i64 q)])))) ?_;simp only [q21,Tree.holds,zf,inR,lo,hi,aD];refine⟨(r,m),⟨by simp [za],hrd2,hm,by simp only; omega,by simp only; omega⟩,⟨_,rfl⟩,?_⟩;rintro _ rfl;simp only [Nat.zero_add];refine⟨λhge=> ?_,λhlt=> ?_⟩
 ·have hge:Ten.val m<=Ten.val r:=zdg.1 (aB hge);refine⟨(r,m),⟨by simp [za],hrd2,hm,by simp only; omega,hge⟩,zjm hrd2 hge,?_⟩;rintro r2 ⟨h1,h2,h3⟩;simp only at h1 h3;rw [hqp];refine⟨by omega,λ_=>⟨by omega,λ_=>⟨by omega,λ_=> ?_⟩⟩⟩;rw [aP trivial];refine⟨⟨(k+1,r2),h2,h1.trans hrl2,?_⟩,by show Ten.val r2<Ten.val r; omega,by simp [SRn,natS,za],?_,by kernel_rfl,aI _⟩
  ·show V=(k+1)*Ten.val m+Ten.val r2;rw [bH,Nat.one_mul]; omega
  ·simp only [<- hset];have h1:=vA (k:=.i64) (l:=q) (v:=((k:Int)+1)) (i:=p) (by omega) (by omega);have e:((k:Int)+1).toNat=k+1:=by omega
   rw [e,hqln] at h1;exact⟨⟨rfl,rfl,h1⟩,trivial⟩
 ·have hlt:Ten.val r<Ten.val m:=by
   have:=aC hlt;rw [zdg] at this;omega
  refine⟨by omega,λ_=> ?_⟩;rw [aO (by decide)];refine hback k r hk hrd2 hrl2 hlt hv _ _ ⟨by simp [SRo,natS,za],?_,by kernel_rfl,aI _⟩;rw [hq];simp [za]
structure IRo(l m:List Nat) where
 qs:List Nat
 r:List Nat
 i:Nat
 hi:i<=l.length
 hql:qs.length+i=l.length
 hqd:Ten.dig qs
 hrd:Ten.dig r
 hrl:r.length<=m.length+1
 hrl2:r.length+i<=l.length
 hlt:Ten.val r<Ten.val m
 hv:Ten.val (l.drop i)=Ten.val qs*Ten.val m+Ten.val r
theorem zc3{O:Nat->Prop}{w0:World}{Q:AV×Heap->Prop}{Hs:Nat->KV->Heap->Prop}(l m:List Nat)(hl:Ten.dig l)(hm:Ten.dig m)(hll:l.length<2^38)(hml:m.length<2^38)(hm0:0<Ten.val m)(hmt:Ten.val m<10^m.length)
  (hq:∀ r,zlk (l,m) r->Q (.tup [nat6 r.1,nat6 r.2],[])) (kv:KV) (h:Heap) (hle:LeK 0 f175.ntmps kv h (SRo l m [] [] l.length) [.arr l.length 1 (natG .i64 (qz l.length []))]) :
  zc prog f175 O 0 w0 [] Hs (RetR UB 0 Q) (.code (.loop (lps (inside K175 0) 0).1)::(lps (inside K175 0) 0).2) (mk f175.ntmps kv h):=by
 refine zc.loop (ι:=IRo l m) (λz=>SRo l m z.qs z.r z.i) (λz=>[.arr l.length 1 (natG .i64 (qz z.i z.qs))]) (λz=>z.i) ⟨[],[],l.length,aJ _,by simp,by simp [Ten.dig],by simp [Ten.dig],by simp,by simp,by simpa [Ten.val] using hm0,by simp [Ten.val]⟩ 0 hle ?_ (by kernel_rfl);rintro⟨qs,r,i,hil,hql,hqd,hrd,hrl,hrl2,hrv,hv⟩;obtain⟨q,hqz⟩:∃ q,qz i qs=q:=⟨_,rfl⟩;simp only [hqz];refine zc.n GR4.h [0,1,6,7,8,9,15,16,17,18,19,20] (let v3:=inR .i64 (m.length+1);let v2:=lps (inside (inside K175 0) 0) 0;let v1:List Blk:=[.arr l.length 1 (natG .i64 q),.arr (1+r.length) 1 (appG 1 (zj 1 [.int .i64 ↑(l.getD (Int.toNat (i-1)) 0)]) (natG .i64 r))];.D ((0:Int)<=i - (1:Int)) (.side ((0:Int)<=i - (1:Int)/\(i:Int) - (1:Int)<l.length) (.side (0=0/\1<=1/\(1+r.length)*8<=140737488355328) (.side v3 (.D ((m.length:Int)+(1:Int)<(↑(1+r.length):Int)) (.side v3 (.side ((0:Int)<=m.length+(1:Int)/\(m.length:Int)+(1:Int)<=(↑(1+r.length):Int)) (.leaf (.loop v2.1 v2.2 [(0,.sl l.length 1 (natG .i64 l)),(1,.sl m.length 1 (natG .i64 m)),(6,.i m.length),(7,.osl 0 1 0 l.length),(8,.osl 1 1 0 (Int.toNat (m.length+1) - 0)),(9,.i (i-1)),Z 15,Z 16,Z 17,Z 18,Z 19,Z 20] v1)))) (.leaf (.loop v2.1 v2.2 [(0,.sl l.length 1 (natG .i64 l)),(1,.sl m.length 1 (natG .i64 m)),(6,.i m.length),(7,.osl 0 1 0 l.length),(8,.osl 1 1 0 (1+r.length)),(9,.i (i-1)),Z 15,Z 16,Z 17,Z 18,Z 19,Z 20] v1)))))) (.R [.osl 0 1 0 l.length,.sl r.length 1 (natG .i64 r)] [.arr l.length 1 (natG .i64 q)])) ?_;simp only [Tree.holds,zf,inR,lo,hi,aD];refine⟨λhge=> ?_,λhlt=> ?_⟩
 ·obtain⟨p,rfl⟩:∃ p,i=p+1:=⟨i - 1,by have:=aB hge; omega⟩;have e:(((p+1:Nat):Int) - 1).toNat=p:=by omega
  have e2:((p+1:Nat):Int) - 1=(p:Int):=by omega
  have e3:((m.length:Int)+1).toNat - 0=m.length+1:=by omega
  have hx:l.getD p 0<10:=Ten.zP hl p
  have hdrop:l.drop p=l.getD p 0::l.drop (p+1):=by
   have h1:p<l.length:=by omega
   rw [List.drop_eq_getElem_cons h1];simp [List.getD,h1]
  simp only [e2,e3,aD];obtain⟨x,hxe⟩:∃ x,l.getD p 0=x:=⟨_,rfl⟩;simp only [hxe] at hx hdrop ⊢;have hVv:Ten.val (x::r)=x+10*Ten.val r:=rfl;have hV:Ten.val (x::r)<10*Ten.val m:=by rw [hVv]; omega
  have hpow:10^(m.length+1)=10^m.length*10:=Nat.pow_succ ..;have hcut:Ten.val ((x::r).take (m.length+1))=Ten.val (x::r):=zm7 (by rw [hpow]; omega);have hdig:Ten.dig ((x::r).take (m.length+1)):=Ten.jk (Ten.qE.2 ⟨hx,hrd⟩) _
  have main:∀ n,n=((x::r).take (m.length+1)).length->zc prog f175 O 0 w0 [] (λd kv h=>if d=0 then ∃ x':IRo l m,x'.i<p+1/\LeK 0 f175.ntmps kv h (SRo l m x'.qs x'.r x'.i) [.arr l.length 1 (natG .i64 (qz x'.i x'.qs))] else Hs d kv h) (RetR UB 0 Q)
    (.code (.loop (lps (inside (inside K175 0) 0) 0).1)::(lps (inside (inside K175 0) 0) 0).2)
    (mk f175.ntmps [(0,nat6 l),(1,nat6 m),(6,.i (m.length:Int)),(7,.osl 0 1 0 l.length),(8,.osl 1 1 0 n),(9,.i (p:Int)),Z 15,Z 16,Z 17,Z 18,Z 19,Z 20]
     [.arr l.length 1 (natG .i64 q),.arr (1+r.length) 1 (appG 1 (zj 1 [.i (x:Int)]) (natG .i64 r))]):=by
   intro n hn;refine zc.freeze [1] (by simp) (by kernel_rfl) ?_;refine zbl l m qs ((x::r).take (m.length+1)) p (Ten.val (x::r)) hm hll hml hm0 (by omega) (by omega) hV hdig (by simp; omega) hcut ?_ _ _ ⟨?_,?_,by kernel_rfl,aI _⟩
   ·intro k r' hk hd' hl' hlt' hv' kv h hle';rw [aP rfl];rw [aH,aL] at hl';refine⟨⟨k::qs,r',p,by omega,by simp; omega,Ten.qE.2 ⟨hk,hqd⟩,hd',by omega,by omega,hlt',?_⟩,Nat.lt_succ_self p,hle'⟩;rw [hdrop];show x+10*Ten.val (l.drop (p+1))=(k+10*Ten.val qs)*Ten.val m+Ten.val r';rw [hv,bH,bI];rw [hVv] at hv';omega
   ·have:Uh [1] ([.arr l.length 1 (natG .i64 q),.arr (1+r.length) 1 (appG 1 (zj 1 [.i (x:Int)]) (natG .i64 r))]) [(0,nat6 l),(1,nat6 m),(6,.i (m.length:Int)),(7,.osl 0 1 0 l.length),(8,.osl 1 1 0 n),(9,.i (p:Int)),Z 15,Z 16,Z 17,Z 18,Z 19,Z 20]=[(0,nat6 l),(1,nat6 m),(6,.i (m.length:Int)),(7,.osl 0 1 0 l.length),(8,.sl n 1 (zi (appG 1 (zj 1 [.i (x:Int)]) (natG .i64 r)) 0)),(9,.i (p:Int)),Z 15,Z 16,Z 17,Z 18,Z 19,Z 20]:=rfl;rw [this];have hg:=zil (k:=.i64) (x:=x) (r:=r) (n:=n) (by rw [hn]; simp; omega);have h2:(x::r).take n=(x::r).take (m.length+1):=by rw [hn,aH,<- List.take_take,bD]
    rw [h2] at hg;subst hn;refine⟨rfl,by simp [natS,za],rfl,by simp [natS,za],rfl,by simp,rfl,by simp,rfl,?_,rfl,by simp,by simp⟩;exact⟨rfl,rfl,hg⟩
   ·have:wL [1] (zG [1] [.arr l.length 1 (natG .i64 q),.arr (1+r.length) 1 (appG 1 (zj 1 [.i (x:Int)]) (natG .i64 r))])=[.arr l.length 1 (natG .i64 q),.dead]:=rfl;rw [this];have hqq:q=qz p (0::qs):=by rw [<- hqz]; simp [qz,List.replicate_succ']
    rw [<- hqq];simp [za]
  refine⟨by omega,λ_=>⟨⟨trivial,aJ _,by omega⟩,λ_=>⟨by omega,λ_=>⟨λhbig=> ?_,λhsm=> ?_⟩⟩⟩⟩
  ·have hbig:=aB hbig;refine⟨by omega,λ_=>⟨by omega,λ_=>main _ ?_⟩⟩;rw [aH,aL]; omega
  ·have hsm:=aC hsm;refine main _ ?_;rw [aH,aL]; omega
 ·have hi0:i=0:=by have:=aC hlt; omega
  subst hi0;rw [<- hqz];have hqq:qz 0 qs=qs:=by simp [qz]
  rw [hqq];have hql2:l.length=qs.length:=by omega
  rw [List.drop_zero] at hv;have hb:([.arr l.length 1 (natG .i64 qs)]:Heap)[0]?=some (.arr l.length 1 (natG .i64 qs)):=rfl
  have hd:Ten.val l/Ten.val m=Ten.val qs/\Ten.val l%Ten.val m=Ten.val r:=by
   rw [hv,bJ,Nat.mul_add_div hm0,Nat.mul_add_mod,Nat.div_eq_of_lt hrv,Nat.mod_eq_of_lt hrv];exact⟨by omega,rfl⟩
  refine RetR.out0 (hq (qs,r) ⟨by simp only; omega,hqd,by simp only [hd.1],by simp only; omega,hrd,by simp only [hd.2]⟩) (λh=>by cases h) ?_;simp only [resV,exp2,List.map_cons,List.map_nil,exp1];rw [yq hb (by omega),zdd];simp [eqA2,eqL1,eqA,eqA0,natS,za,exp0,ren0,hql2]
theorem zdt:ze prog 175 UB:=by
 refine zh' f175 λp hp O w0 Q hq=> ?_
 obtain⟨l,m⟩:=p;obtain⟨hl,hm,hll,hml,hm0⟩:=hp;simp only at hq hl hm hll hml hm0;refine zc.n GR4.h [0,1,6,7,8,9,15,16,17,18,19,20] (.leaf (.loop (lps K175 0).1 (lps K175 0).2 [(0,.sl l.length 1 (natG .i64 l)),(1,.sl m.length 1 (natG .i64 m)),(6,.i m.length),Z 7,Z 8,Z 9,Z 15,Z 16,Z 17,Z 18,Z 19,Z 20] [])) ?_;simp only [Tree.holds,zf];refine zc.loop (ι:={n:Nat // n<=m.length/\Ten.tlen m<=n}) (λn=>SRd l m n.1) (λ_=>[]) (λn=>n.1) ⟨m.length,aJ _,Ten.qo m⟩ 0 ?_ ?_ (by kernel_rfl)
 ·exact⟨by simp [SRd,natS,za],by simp,by kernel_rfl,aI _⟩
 ·rintro⟨n,hn,ht⟩;refine zc.n GR4.h [0,1,6,7,8,9,15,16,17,18,19,20] (.side (decide ((1:Int)<n)=true->inR .i64 (n-1)) (.side (decide ((1:Int)<n)=true->(0:Int)<=n - (1:Int)/\(n:Int) - (1:Int)<m.length) (.ite (bif decide ((1:Int)<n) then decide ((↑(m.getD (Int.toNat (n-1)) 0):Int)=0) else false) (.S (n-1) (.leaf (.back 0 [(0,.sl l.length 1 (natG .i64 l)),(1,.sl m.length 1 (natG .i64 m)),(6,.i (n-1)),Z 7,Z 8,Z 9,Z 15,Z 16,Z 17,Z 18,Z 19,Z 20] []))) (.side ((0:Int)<=n/\(n:Int)<=m.length) (.side ((0:Int)<=l.length/\(l.length:Int)<=l.length/\inR .i64 l.length/\Int.toNat l.length*8<=140737488355328) (.S (l.length-1) (.leaf (.loop (lps (inside K175 0) 0).1 (lps (inside K175 0) 0).2 [(0,.sl l.length 1 (natG .i64 l)),(1,.sl (Int.toNat n - 0) 1 (zi (natG .i64 m) 0)),(6,.i n),(7,.osl 0 1 0 (Int.toNat l.length)),(8,.nils),(9,.i (l.length-1)),Z 15,Z 16,Z 17,Z 18,Z 19,Z 20] [.arr (Int.toNat l.length) 1 (kT [.i 0])])))))))) ?_;simp only [Tree.holds,zf,inR,lo,hi,aD];refine⟨by omega,λ_=>⟨λh=>by have:=aB h; omega,λ_=>⟨λhz=> ?_,λhz=> ?_⟩⟩⟩
  ·have hn1:1<n:=by
    rcases aR 1 n with h | h
    ·exact h
    ·rw [aW (by omega)] at hz; cases hz
   have e:((n:Int) - 1).toNat=n - 1:=by omega
   have hz:m.getD (n - 1) 0=0:=by
    rw [aX (by omega),e] at hz;have:=aB hz;omega
   refine⟨by omega,λ_=> ?_⟩;rw [aP trivial];refine⟨⟨n - 1,by omega,?_⟩,by show n - 1<n; omega,by simp [SRd,natS,za]; omega,by simp,by kernel_rfl,aI _⟩;refine Nat.le_of_not_lt λhlt=> ?_
   have hnt:n=Ten.tlen m:=by omega
   subst hnt;exact Ten.q9 m (by omega) hz
  ·refine⟨by omega,λ_=>⟨by omega,λ_=>⟨by omega,λ_=> ?_⟩⟩⟩;have hlen:(m.take n).length=n:=by rw [aH]; omega
   have hd:Ten.dig (m.take n):=Ten.jk hm n
   have hval:Ten.val (m.take n)=Ten.val m:=by
    refine JX hd hm λj=> ?_
    rcases aR j n with h | h
    ·exact ZZ h
    ·rw [vE (by omega),Ten.js m j (by omega)]
   refine zc3 l (m.take n) hl hd hll (by omega) (by omega) (Ten.zZ hd) ?_ _ _ ⟨?_,?_,by kernel_rfl,aI _⟩
   ·intro r hr;refine hq r ?_;simp only [zlk,hval] at hr ⊢;exact hr
   ·refine⟨rfl,by simp [natS,za],rfl,?_,by simp [hlen,natS]⟩;refine⟨by rw [hlen]; rfl,rfl,?_⟩;intro j o hj ho;have ho:o=0:=by omega
    subst ho;simp only [zi,natG,Nat.zero_add];rw [ZZ (by omega)]
   ·refine⟨⟨rfl,rfl,?_⟩,trivial⟩;intro j o hj ho;have ho:o=0:=by omega
    subst ho;simp only [kT,natG,qz,List.append_nil];rw [Vx hj]; rfl
noncomputable def K164:=Go.Sx.aA f164
def big:Nat:=1000
theorem zfb{s:L8}(h:errI s=0):numI s<10^big:=by
 obtain⟨_,h1,_,h2⟩:=yx h;exact bB (uo h1) (bX (by decide) h2)
theorem zvv{x y:Nat}(hx:x<10^big)(hy:y<10^big):wr false (Nat.gcd x y)=(wM false (Nat.gcd x y),0):=by
 have h:Nat.gcd x y<10^big:=by
  rcases bC x with h | h
  ·subst h; rw [Nat.gcd_zero_left]; exact hy
  ·exact Nat.lt_of_le_of_lt (Nat.le_of_dvd h (Nat.gcd_dvd_left x y)) hx
 have h2:=xr h;have hb:big=1000:=rfl;unfold wr wM;split
 ·rfl
 ·rw [aO (by omega)]
theorem uC{s:L8}(h:errI s=0):digR s=(dg (parse s).2,(parse s).1,true)/\Ten.dig (dg (parse s).2)/\(dg (parse s).2).length<=1000/\Ten.val (dg (parse s).2)=numI s:=by
 obtain⟨neg,b,h1,h2,h3,h4,h5,h6⟩:=JC h;refine⟨?_,?_,?_,XW _⟩
 ·simp only [digR,h2,h3,if_true]
 ·simp only [h2]; exact zjn h4
 ·simp only [h2,xM]; exact h6
def zsl:Ctr:=ctrP true (λp:L8×L8=>[.str p.1,.str p.2]) (λp=>p.1.length<2^40/\p.2.length<2^40) (λp r=>r=gcdR p.1 p.2) (λ_ r=>(.tup [.str r.1,.i r.2],[]))
def SRg(x y:List Nat):KV:=[(7,nat6 x),(10,nat6 y)]
noncomputable def GR5:=tb zdf (tb uO (tb zdt (tb zdk (tb JU tz))))
abbrev q24(A:List AV)(x:List Nat×Bool):Prop:=eqL A [.sl x.1.length 1 (natG .i64 x.1),.bool x.2]/\Ten.dig x.1/\x.1.length<1099511627776
abbrev q23(A:List AV)(x:L8×L8):Prop:=eqL A [.str x.1,.str x.2]/\x.1.length<1099511627776/\x.2.length<1099511627776
theorem zqu:ze prog 164 zsl:=by
 refine zh' f164 λp hp O w0 Q hq=> ?_
 obtain⟨s,t⟩:=p;obtain⟨hs,ht⟩:=hp;replace hq:=hq _ rfl;simp only at hs ht hq;refine zc.n GR5.h [7,10] (.ex (q23 [.str s,.str t]) λn=>.all (λ(r:Int)=>r=zx n.1 n.2) λn=>.N (n=0) (.R [.str #[].toList,.i n] []) (.ex (q22 [.str s]) λn=>.all (λ(r:List Nat×Bool×Bool)=>r=digR n) λn=>.ex (q22 [.str t]) λn_1=>.all (λ(r:List Nat×Bool×Bool)=>r=digR n_1) λn_2=>.leaf (.loop (lps K164 0).1 (lps K164 0).2 [(7,.sl n.1.length 1 (natG .i64 n.1)),(10,.sl n_2.1.length 1 (natG .i64 n_2.1))] []))) ?_;simp only [q22,q23,Tree.holds,zf];refine⟨(s,t),⟨by simp,hs,ht⟩,⟨_,rfl⟩,?_⟩;rintro _ rfl;simp only;refine⟨λhe=> ?_,λhe=> ?_⟩
 ·have he:zx s t≠0:=by
   intro h; simp [h] at he
  have e:gcdR s t=([],zx s t):=by simp [gcdR,he]
  rw [e] at hq;exact RetR.scal hq rfl (by simp [resV])
 ·have he:zx s t=0:=by
   refine bM λh=> ?_
   simp [h] at he
  obtain⟨h1,h2⟩:=zn.1 he
  have e:gcdR s t=(wM false (Nat.gcd (numI s) (numI t)),0):=by
   rw [gcdR,aP he]; exact zvv (zfb h1) (zfb h2)
  rw [e] at hq;refine⟨s,⟨by simp,hs⟩,⟨_,rfl⟩,?_⟩;rintro _ rfl;refine⟨t,⟨by simp,ht⟩,⟨_,rfl⟩,?_⟩;rintro _ rfl;obtain⟨a1,a2,a3,a4⟩:=uC h1;obtain⟨b1,b2,b3,b4⟩:=uC h2;rw [a1,b1];simp only;rw [<- a4,<- b4] at hq;generalize dg (parse s).2=x0 at *
  generalize dg (parse t).2=y0 at *
  clear a1 b1 e he h1 h2 hs ht a4 b4;refine zc.loop (ι:={z:List Nat×List Nat // Nat.gcd (Ten.val z.1) (Ten.val z.2)=Nat.gcd (Ten.val x0) (Ten.val y0)/\Ten.dig z.1/\Ten.dig z.2/\z.1.length<=1000/\z.2.length<=1000}) (λz=>SRg z.1.1 z.1.2) (λ_=>[]) (λz=>Ten.val z.1.2) ⟨(x0,y0),rfl,a2,b2,a3,b3⟩ 0 ?_ ?_ (by kernel_rfl)
  ·exact⟨by simp [SRg,natS,za],by simp,by kernel_rfl,aI _⟩
  ·rintro⟨⟨x,y⟩,hg,hx,hy,hxl,hyl⟩;simp only at hg hx hy hxl hyl;refine zc.n GR5.h [7,10] (.ex (λ(x:List Nat)=>eqL [.sl y.length 1 (natG .i64 y)] [.sl x.length 1 (natG .i64 x)]/\Ten.dig x/\x.length<4611686018427387904) λn=>.all (λ(r:Bool)=>r=decide (Ten.val n=0)) λn=>.ite (!n) (.ex (λ(x_1:List Nat×List Nat)=>eqL [.sl x.length 1 (natG .i64 x),.sl y.length 1 (natG .i64 y)] [.sl x_1.1.length 1 (natG .i64 x_1.1),.sl x_1.2.length 1 (natG .i64 x_1.2)]/\Ten.dig x_1.1/\Ten.dig x_1.2/\x_1.1.length<274877906944/\x_1.2.length<274877906944/\0<Ten.val x_1.2) λn=>.all (λ(r:List Nat×List Nat)=>r.1.length=n.1.length/\Ten.dig r.1/\Ten.val r.1=Ten.val n.1/Ten.val n.2/\r.2.length<=n.1.length/\Ten.dig r.2/\Ten.val r.2=Ten.val n.1%Ten.val n.2) λn=>.leaf (.back 0 [(7,.sl y.length 1 (natG .i64 y)),(10,.sl n.2.length 1 (natG .i64 n.2))] [])) (.ex (q24 [.sl x.length 1 (natG .i64 x),.bool false]) λn=>.all (λ(r:L8)=>r=wM n.2 (Ten.val n.1)) λn=>.R [.str n,.i 0] [])) ?_;simp only [q24,Tree.holds,zf,inR,lo,hi];refine⟨y,⟨by simp [za],hy,by omega⟩,⟨_,rfl⟩,?_⟩;rintro _ rfl;refine⟨λh0=> ?_,λh0=> ?_⟩
   ·have hy0:0<Ten.val y:=by
     rcases bC (Ten.val y) with h | h
     ·rw [h] at h0; simp at h0
     ·exact h
    refine⟨(x,y),⟨by simp [za],hx,hy,by simp only; omega,by simp only; omega,hy0⟩,?_,?_⟩
    ·obtain⟨g1,g2,g3⟩:=zfm hx (Nat.div_le_self (Ten.val x) (Ten.val y));obtain⟨g4,g5,g6⟩:=zfm hx (Nat.mod_le (Ten.val x) (Ten.val y));exact⟨(_,_),g1,g2,g3,Nat.le_of_eq g4,g5,g6⟩
    rintro⟨q,r⟩ ⟨g1,g2,g3,g4,g5,g6⟩;simp only at g1 g2 g3 g4 g5 g6;simp only;rw [aP trivial];refine⟨⟨(y,r),?_,hy,g5,hyl,bP g4 hxl⟩,?_,by simp [SRg,natS,za],by simp,by kernel_rfl,aI _⟩
    ·show Nat.gcd (Ten.val y) (Ten.val r)=_;rw [g6,<- hg,Nat.gcd_comm (Ten.val x),Nat.gcd_rec (Ten.val y) (Ten.val x),Nat.gcd_comm]
    ·show Ten.val r<Ten.val y;rw [g6]; exact Nat.mod_lt _ hy0
   ·have hy0:Ten.val y=0:=by
     refine bM λh=> ?_
     rw [aW h] at h0; simp at h0
    refine⟨(x,false),⟨by simp [za],hx,by simp only; omega⟩,⟨_,rfl⟩,?_⟩;rintro _ rfl;rw [hy0,Nat.gcd_zero_right] at hg;rw [<- hg] at hq;exact RetR.scal hq rfl (by simp [resV])
end Go.Proofs.Tryz
end
section
namespace Go.Proofs
set_option maxHeartbeats 1000000 in
set_option maxRecDepth 100000 in
theorem Tryz.za1(s:ByteArray)(c:Int)(w:World) :
  Calls Tryz.prog 177 #[.string s,.int .u8 c] w λe w'=>e = .returned (.i (Lib.indexByte s.data.toList c.toNat.toUInt8))/\w'=w:=by
 go_enter Tryz.func177,Tryz.ntmps177
 go_wp2
 rw [run_callFunc_extern Tryz.func182 (by kernel_rfl) (by kernel_rfl) (by kernel_rfl) (e:=Extern.BytealgIndexByte.indexByte) (by kernel_rfl),Lib.run_indexByteString];simp only [Result.andThen];rw [Oper.upon_value]
 go_wp2
 go_ret
 exact⟨rfl,rfl⟩
set_option maxHeartbeats 2000000 in
set_option maxRecDepth 100000 in
theorem Tryz.zbi(s:ByteArray)(c:UInt8)(w:World) :
  Calls Tryz.prog 170 #[.string s,.string ⟨#[c]⟩] w λe w'=>e = .returned (.i (Lib.indexByte s.data.toList c))/\w'=w:=by
 go_enter Tryz.func170,Tryz.ntmps170
 go_wp2_with (go_at_call 177; refine(Tryz.za1 _ _ _).mono ?_; rintro e w' ⟨rfl,rfl⟩)
 ·have h:([c] == s.toList)=true:=by assumption
  go_ret
  refine⟨?_,rfl⟩;have e:s.data.toList=[c]:=by rw [<- Lib.toList_data]; exact(beq_iff_eq.1 h).symm
  rw [e];simp [Lib.indexByte]
 ·go_ret
  exact⟨rfl,rfl⟩
end Go.Proofs
end
section
set_option maxRecDepth 100000
open Go Go.Sx Go.Proofs Go.Nov
namespace Go.Proofs.Tryz
attribute [local simp] eqKV eqA eqA0 eqH eqB eqL eqL0
noncomputable def K163:=Go.Sx.aA f163
theorem Jv(s:L8):Lib.indexByte s 47=if zE s<s.length then(zE s:Int) else -1:=by
 induction s with
 | nil=>rfl
 | cons c s ih=>
  simp only [Lib.indexByte,zE,List.findIdx_cons];cases h:(c == 47) with
  | true=>simp
  | false=>
   simp only [Bool.false_eq_true,if_false,ih,cond_false,aL];show _=if zE s+1<s.length+1 then((zE s+1:Nat):Int) else -1
   by_cases h2:zE s<s.length
   ·rw [aP h2,aO (by simp),aP (by omega)]; omega
   ·rw [aO h2,aP (by rfl),aO (by omega)]
def zd1:Ctr:=ctrP true (λs:L8=>[.str s,.str [47]]) (λs=>True) (λs r=>r=if zE s<s.length then(zE s:Int) else -1) (λ_ (r:Int)=>(.i r,[]))
theorem zkr:ze prog 170 zd1:=by
 intro args hc Q hq _;simp only [zd1,ctrP] at hq;split at hq
 ·obtain⟨s,⟨h1,_⟩,_,h3⟩:=hq;have hq:=h3 _ rfl;simp only [Tree.holds] at hq;refine jI.le h1 ?_;intro O w σ vals hg hh hr;simp only [RepL,Rep] at hr;obtain⟨v1,r1,rfl,rfl,v2,r2,rfl,rfl,rfl⟩:=hr;refine .inl ⟨enters_of Tryz.func170 (by kernel_rfl) rfl ..,?_⟩;refine(Tryz.zbi ⟨s.toArray⟩ 47 w).mono ?_;rintro e w' ⟨rfl,rfl⟩;have hx:=Jv s;have h0:σ=[]:=aU.1 hh.len;subst h0;refine⟨_,rfl,_,[],[],hq,?_,⟨rfl,λi j e f a b h=>by simp at h,λi e a h=>by simp at h,λi e b h=>by simp at h⟩,hg,aJ _,Hold.refl _ _ _,Ext.refl _ _⟩;simp only [Rep];rw [<- hx]
 ·exact hq.elim
def cutC:Ctr:=ctrP true (λs:L8=>[.str s,.str [47]]) (λs=>s.length<2^62) (λs r=>r=cutR s) (λ_ r=>(.tup [.str r.1,.str r.2.1,.bool r.2.2],[]))
noncomputable def GC1:=tb zkr tz
theorem zrk:ze prog 157 cutC:=by
 refine zh' f157 λs hs O w0 Q hq=> ?_
 replace hq:=hq _ rfl;refine zc.n GC1.h [] (.ex (λ(x:L8)=>eqL [.str s,.str [(47:UInt8)]] [.str x,.str [(47:UInt8)]]/\True) λn=>.all (λ(r:Int)=>r=if zE n<n.length then(↑(zE n):Int) else(-1:Int)) λn=>.D ((0:Int)<=n) (.side ((0:Int)<=n/\n<=(s.length:Int)) (.S (n+(1:Int)) (.side ((0:Int)<=n+(1:Int)/\n+(1:Int)<=s.length) (.R [.str (List.drop 0 (List.take (Int.toNat n) s)),.str (List.drop (Int.toNat (n+(1:Int))) (List.take s.length s)),.bool true] [])))) (.R [.str s,.str #[].toList,.bool false] [])) ?_;simp only [Tree.holds,zf,inR,lo,hi];refine⟨s,⟨by simp,trivial⟩,⟨_,rfl⟩,?_⟩;rintro _ rfl;by_cases h:zE s<s.length
 ·simp only [aP h];rw [Jy h] at hq;refine⟨λ_=>⟨by omega,λ_=>⟨by omega,λ_=>⟨by omega,λ_=> ?_⟩⟩⟩,λhn=> ?_⟩
  ·refine RetR.scal hq rfl ?_;simp [resV]
  ·have:=aC hn; omega
 ·simp only [aO h];rw [Xz h] at hq;refine⟨λhn=> ?_,λ_=>RetR.scal hq rfl (by simp [resV])⟩;have:=aB hn; omega
noncomputable def GC2:=tb zrk tz
abbrev q25(A:List AV)(x:L8):Prop:=eqL A [.str x,.str [(47:UInt8)]]/\x.length<4611686018427387904
theorem ztp:ze prog 127 cutC:=by
 refine zh' f127 λs hs O w0 Q hq=> ?_
 replace hq:=hq _ rfl;refine zc.n GC2.h [] (.ex (q25 [.str s,.str [(47:UInt8)]]) λn=>.all (λ(r:L8×L8×Bool)=>r=cutR n) λn=>.R [.str n.1,.str n.2.1,.bool n.2.2] []) ?_;simp only [q25,Tree.holds,zf,inR,lo,hi];refine⟨s,⟨by simp,hs⟩,⟨_,rfl⟩,?_⟩;rintro _ rfl;exact RetR.scal hq rfl (by simp [resV])
def zbk:Ctr:=ctrP true (λs:L8=>[.str s]) (λs=>s.length<2^62) (λs r=>r=cutR s) (λ_ r=>(.tup [.str r.1,.str r.2.1,.bool r.2.2],[]))
noncomputable def GC3:=tb ztp (tb Vs tz)
theorem YV:ze prog 89 zbk:=by
 refine zh' f89 λs hs O w0 Q hq=> ?_
 replace hq:=hq _ rfl;refine zc.n GC3.h [] (.ex (q25 [.str s,.str #[(47:UInt8)].toList]) λn=>.all (λ(r:L8×L8×Bool)=>r=cutR n) λn=>.R [.str n.1,.str n.2.1,.bool n.2.2] []) ?_;simp only [q25,Tree.holds,zf,inR,lo,hi];refine⟨s,⟨by simp,hs⟩,⟨_,rfl⟩,?_⟩;rintro _ rfl;exact RetR.scal hq rfl (by simp [resV])
def ztd:Ctr:=ctrP true (λs:L8=>[.str s]) (λs=>s.length<2^62) (λs r=>r=if errI s=12 then 12 else 0) (λ_ (r:Int)=>(.i r,[]))
theorem zrc:ze prog 90 ztd:=by
 refine zh' f90 λs hs O w0 Q hq=> ?_
 replace hq:=hq _ rfl;refine zc.n GC3.h [] (.ex (q15 [.str s]) λn=>.all (λ(r:Int)=>r=errI n) λn=>.N (n=14) (.R [.i n] []) (.R [.i 0] [])) ?_;simp only [q15,Tree.holds,zf,inR,lo,hi];refine⟨s,⟨by simp,hs⟩,⟨_,rfl⟩,?_⟩;rintro _ rfl;rcases wX s with h | h | h<;>simp only [h] at hq ⊢
 all_goals
  refine⟨λh=> ?_,λh=> ?_⟩
  all_goals first
   | (exfalso; revert h; decide)
   | exact RetR.scal hq rfl (by simp [resV])
def ZB:Ctr:=ctrP true (λs:L8=>[.str s]) (λs=>s.length<2^62) (λs r=>r=errR s) (λ_ (r:Int)=>(.i r,[]))
noncomputable def GC4:=tb YV (tb zrc (tb Vs (tb zly tz)))
theorem uG:ze prog 60 ZB:=by
 refine zh' f60 λs hs O w0 Q hq=> ?_
 replace hq:=hq _ rfl;refine zc.n GC4.h [] (.ex (q15 [.str s]) λn=>.all (λ(r:L8×L8×Bool)=>r=cutR n) λn=>.ex (q15 [.str n.1]) λn_1=>.all (λ(r:Int)=>r=if errI n_1=12 then(12:Int) else(0:Int)) λn_2=>.ex (λ(x:L8)=>(!decide (n_2=0))=false/\n.2.2=true->q15 [.str n.2.1] x) λn_3=>.all (λ(x:Int)=>(!decide (n_2=0))=false/\n.2.2=true->x=if errI n_3=12 then(12:Int) else(0:Int)) λn_4=>.side (((!decide (n_2=0))=false/\n.2.2=true)/\(!decide (n_4=0))=false->(0:Int)<=0/\(0:Int)<n.2.1.length) (.ite (bif !decide (n_2=0) then true else bif n.2.2 then bif bif bif !decide (n_4=0) then true else decide ((↑(UInt8.toNat (List.getD n.2.1 0 (0:UInt8))):Int)=45) then true else decide (n.2.1=#[(48:UInt8)].toList) then true else decide (n.2.1=#[(49:UInt8)].toList) else false) (.R [.i 12] []) (.ex (q15 [.str n.1]) λn_5=>.all (λ(r:Int)=>r=errI n_5) λn_6=>.ex (λ(x:L8)=>(!decide (n_6=0))=false/\n.2.2=true->q15 [.str n.2.1] x) λn_7=>.all (λ(x:Int)=>(!decide (n_6=0))=false/\n.2.2=true->x=errI n_7) λn_8=>.ite (bif !decide (n_6=0) then true else bif n.2.2 then !decide (n_8=0) else false) (.R [.i 14] []) (.ite n.2.2 (.ex (q17 [.str n.1,.str n.2.1]) λn=>.all (λ(r:L8×Int)=>r=gcdR n.1 n.2) λn=>.N (n.1=#[(49:UInt8)].toList) (.R [.i 12] []) (.R [.i 0] [])) (.R [.i 0] []))))) ?_;simp only [q15,q17,Tree.holds,zf,inR,lo,hi];refine⟨s,⟨by simp,hs⟩,⟨_,rfl⟩,?_⟩;rintro _ rfl;have hlen:=JD s
 have hno:(cutR s).2.2=false->(cutR s).1=s:=by
  intro h;unfold cutR at h ⊢;split at h
  ·cases h
  ·rename_i hn; rw [aO hn]
 simp only [errR] at hq;generalize cutR s=c at hq hlen hno ⊢;obtain⟨n,d,f⟩:=c;simp only at hq hlen hno ⊢;refine⟨n,⟨by simp,by omega⟩,⟨_,rfl⟩,?_⟩;rintro _ rfl;refine⟨d,λ_=>⟨by simp,by omega⟩,⟨_,λ_=>rfl⟩,?_⟩;intro fd hfd;cases f with
 | false=>
  have hn:=hno rfl;subst hn;rw [aO (by decide)] at hq;refine⟨λh=>by simp at h,λ_=>⟨λh=> ?_,λh=> ?_⟩⟩
  ·rcases wX n with e | e | e<;>rw [e] at hq h
   ·simp at h
   ·exact RetR.scal hq rfl (by simp [resV])
   ·simp at h
  ·have hn12:errI n≠12:=by
    intro e; rw [e] at h; simp at h
   refine⟨n,⟨by simp,by omega⟩,⟨_,rfl⟩,?_⟩;rintro _ rfl;refine⟨d,λ_=>⟨by simp,by omega⟩,⟨_,λ_=>rfl⟩,?_⟩;intro fd2 _;refine⟨λh=> ?_,λh=>⟨λh=>(by cases h),λ_=> ?_⟩⟩
   ·rcases wX n with e | e | e
    ·rw [e] at h; simp at h
    ·exact absurd e hn12
    ·rw [e] at hq; exact RetR.scal hq rfl (by simp [resV])
   ·rcases wX n with e | e | e
    ·rw [e] at hq; exact RetR.scal hq rfl (by simp [resV])
    ·exact absurd e hn12
    ·rw [e] at h; simp at h
 | true=>
  rw [aP rfl] at hq;by_cases hn:errI n=12
  ·rw [aP (.inl hn)] at hq;simp only [hn];refine⟨λh=>by simp at h,λ_=>⟨λ_=>RetR.scal hq rfl (by simp [resV]),λh=>by simp at h⟩⟩
  ·rw [aO hn] at hfd ⊢;have hfd:=hfd ⟨by simp,rfl⟩;subst hfd;by_cases hd:errI d=12
   ·rw [aP (.inr (.inl hd))] at hq;rw [aP hd];refine⟨λh=>by simp at h,λ_=>⟨λ_=>RetR.scal hq rfl (by simp [resV]),λh=>by simp at h⟩⟩
   ·rw [aO hd];have hd0:d≠[]:=by rintro rfl; exact hd za4
    have hneg:=Km hd0
    have hneg2:decide (((d.getD 0 0).toNat:Int)=45)=negI d:=by
     rw [hneg];by_cases h:d.getD 0 0=45
     ·rw [h]; rfl
     ·rw [aW h];refine aW λh2=>h (ZY ?_)
      rw [h2]; rfl
    rw [hneg2];refine⟨λ_=>by have:=List.length_pos_iff.2 hd0; omega,λ_=>⟨λh=> ?_,λh=> ?_⟩⟩
    ·have:negI d=true\/d=[48]\/d=[49]:=by
      revert h
      cases negI d<;>simp
     rw [aP (.inr (.inr this))] at hq;exact RetR.scal hq rfl (by simp [resV])
    ·have:¬ (errI n=12\/errI d=12\/negI d=true\/d=[48]\/d=[49]):=by
      revert h
      cases negI d<;>simp [hn,hd]
     rw [aO this] at hq;refine⟨n,⟨by simp,by omega⟩,⟨_,rfl⟩,?_⟩;rintro _ rfl;refine⟨d,λ_=>⟨by simp,by omega⟩,⟨_,λ_=>rfl⟩,?_⟩;intro ed hed;by_cases hn0:errI n=0
     ·have hed:=hed ⟨by simp [hn0],rfl⟩;subst hed;by_cases hd0:errI d=0
      ·rw [aO (by simp [hn0,hd0])] at hq;refine⟨λh=>by simp [hn0,hd0] at h,λ_=>⟨λ_=> ?_,λh=>by cases h⟩⟩;refine⟨(n,d),⟨by simp,by simp only; omega,by simp only; omega⟩,⟨_,rfl⟩,?_⟩;rintro _ rfl;refine⟨λh=> ?_,λh=> ?_⟩
       ·rw [aP (by simpa using h)] at hq;exact RetR.scal hq rfl (by simp [resV])
       ·rw [aO (by simpa using h)] at hq;exact RetR.scal hq rfl (by simp [resV])
      ·rw [aP (.inr hd0)] at hq;refine⟨λ_=>RetR.scal hq rfl (by simp [resV]),λh=>by simp [hn0,hd0] at h⟩
     ·rw [aP (.inl hn0)] at hq;refine⟨λ_=>RetR.scal hq rfl (by simp [resV]),λh=>by simp [hn0] at h⟩
def zav:Ctr:=ctrP true (λs:L8=>[.str s]) (λs=>s.length<2^62) (λs r=>r=if zE s<s.length then(zE s:Int) else -1) (λ_ (r:Int)=>(.i r,[]))
def SSl(s:L8)(i:Nat):KV:=[(0,.str s),(3,.i (i:Int))]
theorem zad:ze prog 163 zav:=by
 refine zh' f163 λs hs O w0 Q hq=> ?_
 replace hq:=hq _ rfl;refine zc.n zw [0,3] (.leaf (.loop (lps K163 0).1 (lps K163 0).2 [(0,.str s),(3,.i 0)] [])) ?_;simp only [Tree.holds,zf,inR,lo,hi];refine zc.loop (ι:={i:Nat // i<=s.length/\∀ j,j<i->s.getD j 0≠47}) (λi=>SSl s i.1) (λ_=>[]) (λi=>s.length - i.1) ⟨0,aI _,λj hj=>by omega⟩ 0 ?_ ?_ (by kernel_rfl)
 ·exact⟨by simp [SSl],by simp,by kernel_rfl,aI _⟩
 ·rintro⟨i,hil,hib⟩;refine zc.n zw [0,3] (.D ((i:Int)<s.length) (.side ((0:Int)<=i/\(i:Int)<s.length) (.D ((↑(UInt8.toNat (s.getD (i:Int).toNat (0:UInt8))):Int)=47) (.R [.i i] []) (.S (i+1) (.leaf (.back 0 [(0,.str s),(3,.i (i+1))] []))))) (.R [.i (-1:Int)] [])) ?_;simp only [Tree.holds,zf,inR,lo,hi,aD];refine⟨λhlt=> ?_,λhge=> ?_⟩
  ·have hlt:i<s.length:=by have:=aB hlt; omega
   refine⟨by omega,λ_=>⟨λh=> ?_,λh=>⟨by omega,λ_=> ?_⟩⟩⟩
   ·have h:s.getD i 0=47:=ZY (aB h);have e:=YM hlt h hib;rw [aP (by omega),e] at hq;exact RetR.scal hq rfl (by simp [resV])
   ·have h:s.getD i 0≠47:=by
     intro h2;exact aC h (by rw [h2]; rfl)
    rw [aP trivial];refine⟨⟨i+1,hlt,λj hj=> ?_⟩,by show s.length - (i+1)<s.length - i; omega,by simp [SSl],by simp,by kernel_rfl,aI _⟩;rcases aR j i with h1 | h1
    ·exact hib j h1
    ·have:j=i:=by omega
     rw [this]; exact h
  ·have hge:i=s.length:=by have:=aC hge; omega
   subst hge;have e:=WD hib;rw [aO (by omega)] at hq;exact RetR.scal hq rfl (by simp [resV])
def Vv:Ctr:=ctrP true (λs:L8=>[.str s]) (λs=>s.length<2^62) (λs r=>r=((cutR s).1,if(cutR s).2.2 then(cutR s).2.1 else [49])) (λ_ r=>(.tup [.str r.1,.str r.2],[]))
noncomputable def GQ1:=tb zad tz
theorem Vw:ze prog 148 Vv:=by
 refine zh' f148 λs hs O w0 Q hq=> ?_
 replace hq:=hq _ rfl;refine zc.n GQ1.h [] (.ex (q15 [.str s]) λn=>.all (λ(r:Int)=>r=if zE n<n.length then(↑(zE n):Int) else(-1:Int)) λn=>.D (n<0) (.R [.str s,.str #[(49:UInt8)].toList] []) (.side ((0:Int)<=n/\n<=(s.length:Int)) (.S (n+(1:Int)) (.side ((0:Int)<=n+(1:Int)/\n+(1:Int)<=s.length) (.R [.str (List.drop 0 (List.take (Int.toNat n) s)),.str (List.drop (Int.toNat (n+(1:Int))) (List.take s.length s))] []))))) ?_;simp only [q15,Tree.holds,zf,inR,lo,hi];refine⟨s,⟨by simp,hs⟩,⟨_,rfl⟩,?_⟩;rintro _ rfl;by_cases h:zE s<s.length
 ·simp only [aP h];rw [Jy h] at hq;refine⟨λhn=> ?_,λhn=> ?_⟩
  ·have:=aB hn; omega
  ·refine⟨by omega,λ_=>⟨by omega,λ_=>⟨by omega,λ_=> ?_⟩⟩⟩;exact RetR.scal hq rfl (by simp [resV])
 ·simp only [aO h];rw [Xz h] at hq;refine⟨λhn=>RetR.scal hq rfl (by simp [resV]),λhn=> ?_⟩;have:=aC hn; omega
def za8:Ctr:=ctrP true (λs:L8=>[.str s]) (λs=>s.length<2^40) (λs r=>r=errR s) (λ_ (r:Int)=>(.i r,[]))
noncomputable def GQ2:=tb zad (tb Vw (tb uO (tb zqu tz)))
theorem zdc:ze prog 147 za8:=by
 refine zh' f147 λs hs O w0 Q hq=> ?_
 replace hq:=hq _ rfl;refine zc.n GQ2.h [] (.ex (q15 [.str s]) λn=>.all (λ(r:L8×L8)=>r=(Prod.fst (cutR n),if Prod.snd (Prod.snd (cutR n))=true then Prod.fst (Prod.snd (cutR n)) else [(49:UInt8)])) λn=>let v1:=n.2=#[(48:UInt8)].toList;.ex (q22 [.str n.1]) λn_1=>.all (λ(r:List Nat×Bool×Bool)=>r=digR n_1) λn_2=>.ex (q22 [.str n.2]) λn_3=>.all (λ(r:List Nat×Bool×Bool)=>r=digR n_3) λn_4=>.ex (λ(x:L8)=>(bif bif bif !Prod.snd n_2.2 then true else !Prod.snd n_4.2 then true else n_4.2.1 then true else decide v1)=false->eqL [.str s] [.str x]/\x.length<4611686018427387904) λn_5=>.all (λ(x:Int)=>(bif bif bif !Prod.snd n_2.2 then true else !Prod.snd n_4.2 then true else n_4.2.1 then true else decide v1)=false->x=if zE n_5<n_5.length then(↑(zE n_5):Int) else(-1:Int)) λn_6=>.ite (bif bif bif bif !Prod.snd n_2.2 then true else !Prod.snd n_4.2 then true else n_4.2.1 then true else decide v1 then true else bif decide ((0:Int)<=n_6) then decide (n.2=#[(49:UInt8)].toList) else false) (.R [.i 12] []) (.ite (bif decide ((1000:Int)<n_2.1.length) then true else decide ((1000:Int)<n_4.1.length)) (.R [.i 14] []) (.ex (q23 [.str n.1,.str n.2]) λn=>.all (λ(r:L8×Int)=>r=gcdR n.1 n.2) λn=>.ex (q15 [.str s]) λn_7=>.all (λ(r:Int)=>r=if zE n_7<n_7.length then(↑(zE n_7):Int) else(-1:Int)) λn_8=>.ite (bif decide ((0:Int)<=n_8) then !decide (n.1=#[(49:UInt8)].toList) else false) (.R [.i 12] []) (.R [.i 0] [])))) ?_;simp only [q15,q22,q23,Tree.holds,zf,inR,lo,hi];refine⟨s,⟨by simp,by omega⟩,⟨_,rfl⟩,?_⟩;rintro _ rfl;have hlen:=JD s;have hfl:=zom s
 have hno:(cutR s).2.2=false->(cutR s).1=s:=by
  intro h;unfold cutR at h ⊢;split at h
  ·cases h
  ·rename_i hn; rw [aO hn]
 simp only [errR] at hq;generalize cutR s=c at hq hlen hfl hno ⊢;obtain⟨n,d,f⟩:=c;simp only at hq hlen hfl hno ⊢;obtain⟨e,he⟩:∃ e,(if f=true then d else [49])=e:=⟨_,rfl⟩
 have hel:e.length<1099511627776:=by
  rw [<- he]; split
  ·omega
  ·simp
 simp only [he];refine⟨n,⟨by simp,by omega⟩,⟨_,rfl⟩,?_⟩;rintro _ rfl;refine⟨e,⟨by simp,by omega⟩,⟨_,rfl⟩,?_⟩;rintro _ rfl;refine⟨s,λ_=>⟨by simp,by omega⟩,⟨_,λ_=>rfl⟩,?_⟩;intro sv hsv;rcases JW n with ⟨hn1,hn2⟩ | ⟨hn1,ln,hn2,hn3⟩
 ·have hq:Q (.i 12,[]):=by
   cases f with
   | false=>rw [aO (by decide),<- hno rfl,hn1] at hq; exact hq
   | true=>rw [aP rfl,aP (.inl hn1)] at hq; exact hq
  simp only [hn2];exact⟨λ_=>RetR.scal hq rfl (by simp [resV]),λh=>by simp at h⟩
 rcases JW e with ⟨he1,he2⟩ | ⟨he1,le,he2,he3⟩
 ·have hq:Q (.i 12,[]):=by
   cases f with
   | false=>rw [aO (by decide)] at he; subst he; exact absurd he1 (by decide)
   | true=>
    rw [aP rfl] at he; subst he;rw [aP rfl,aP (.inr (.inl he1))] at hq; exact hq
  simp only [hn2,he2];exact⟨λ_=>RetR.scal hq rfl (by simp [resV]),λh=>by simp at h⟩
 simp only [hn2,he2,Bool.not_true,cond_false] at hsv ⊢;cases f with
 | false=>
  rw [aO (by decide)] at he hq;subst he;have hnn:negI [49]=false:=by decide
  have h49:errI [49]=0:=by decide
  have hs:=hno rfl;subst hs;simp only [hnn,cond_false] at hsv ⊢;have hsv:=hsv (by decide);rw [<- hsv] at hfl;rw [<- hfl,hn3,he3,h49];refine⟨λh=>by simp at h,λ_=>⟨λh=> ?_,λh=> ?_⟩⟩
  ·rcases wX n with e | e | e
   ·rw [e] at h; simp at h
   ·exact absurd e hn1
   ·rw [e] at hq; exact RetR.scal hq rfl (by simp [resV])
  ·have h0:errI n=0:=by
    rcases wX n with e | e | e
    ·exact e
    ·exact absurd e hn1
    ·rw [e] at h; simp at h
   rw [h0] at hq;refine⟨(n,[49]),⟨by simp,by simp only; omega,by simp⟩,⟨_,rfl⟩,?_⟩;rintro _ rfl;refine⟨n,⟨by simp,by omega⟩,⟨_,rfl⟩,?_⟩;rintro _ rfl;rw [<- hsv,<- hfl];refine⟨λh=>by simp at h,λ_=>RetR.scal hq rfl (by simp [resV])⟩
 | true=>
  rw [aP rfl] at he hq;subst he;cases hng:negI d with
  | true=>
   rw [aP (.inr (.inr (.inl hng)))] at hq;exact⟨λ_=>RetR.scal hq rfl (by simp [resV]),λh=>by simp at h⟩
  | false=>
   simp only [hng,cond_false] at hsv ⊢;by_cases h48:d=[48]
   ·rw [aP (.inr (.inr (.inr (.inl h48))))] at hq;rw [aX h48];exact⟨λ_=>RetR.scal hq rfl (by simp [resV]),λh=>by simp at h⟩
   ·rw [aW h48] at hsv ⊢;have hsv:=hsv rfl;rw [<- hsv] at hfl;rw [<- hfl];simp only [cond_false,cond_true];by_cases h49:d=[49]
    ·rw [aP (.inr (.inr (.inr (.inr h49))))] at hq;rw [aX h49];exact⟨λ_=>RetR.scal hq rfl (by simp [resV]),λh=>by simp at h⟩
    ·rw [aW h49];rw [aO (by simp [hn1,he1,hng,h48,h49])] at hq;refine⟨λh=>(by cases h),λ_=> ?_⟩;rw [hn3,he3];by_cases hn0:errI n=0
     ·by_cases hd0:errI d=0
      ·rw [aO (by simp [hn0,hd0])] at hq;refine⟨λh=>by simp [hn0,hd0] at h,λ_=> ?_⟩;refine⟨(n,d),⟨by simp,by simp only; omega,by simp only; omega⟩,⟨_,rfl⟩,?_⟩;rintro _ rfl;refine⟨s,⟨by simp,by omega⟩,⟨_,rfl⟩,?_⟩;rintro _ rfl;rw [<- hsv,<- hfl];refine⟨λh=> ?_,λh=> ?_⟩
       ·rw [aP (by simpa using h)] at hq;exact RetR.scal hq rfl (by simp [resV])
       ·rw [aO (by simpa using h)] at hq;exact RetR.scal hq rfl (by simp [resV])
      ·rw [aP (.inr hd0)] at hq;refine⟨λ_=>RetR.scal hq rfl (by simp [resV]),λh=>by simp [hn0,hd0] at h⟩
     ·rw [aP (.inl hn0)] at hq;refine⟨λ_=>RetR.scal hq rfl (by simp [resV]),λh=>by simp [hn0] at h⟩
noncomputable def K56:=Go.Sx.aA f56
def JL:Ctr:=ctrP true (λd:Int=>[.i d]) (λ_=>True) (λd r=>r=dayB d) (λ_ (r:Bool)=>(.bool r,[]))
theorem Q8:ze prog 59 JL:=by
 refine zh' f59 λd hs O w0 Q hq=> ?_
 replace hq:=hq _ rfl;refine zc.n zw [] (.R [.bool (bif decide ((0:Int)<=d) then decide (d<=99999) else false)] []) ?_;simp only [Tree.holds,zf];refine RetR.scal hq rfl ?_;simp only [resV,dayB];cases decide (0<=d)<;>rfl
theorem zpn(c:UInt8):(bif bif decide (97<=(c.toNat:Int)) then decide ((c.toNat:Int)<=122) else false then true else bif decide (65<=(c.toNat:Int)) then decide ((c.toNat:Int)<=90) else false)=isL c:=by
 have e1:decide (97<=(c.toNat:Int))=decide (97<=c.toNat):=decide_eq_decide.2 (by omega);have e2:decide ((c.toNat:Int)<=122)=decide (c.toNat<=122):=decide_eq_decide.2 (by omega);have e3:decide (65<=(c.toNat:Int))=decide (65<=c.toNat):=decide_eq_decide.2 (by omega);have e4:decide ((c.toNat:Int)<=90)=decide (c.toNat<=90):=decide_eq_decide.2 (by omega);rw [e1,e2,e3,e4];simp only [isL];cases decide (97<=c.toNat)<;>cases decide (c.toNat<=122)<;>cases decide (65<=c.toNat)<;>rfl
def zdy:Ctr:=ctrP true (λc:UInt8=>[.int .u8 (c.toNat:Int)]) (λ_=>True) (λc r=>r=isL c) (λ_ (r:Bool)=>(.bool r,[]))
theorem zfw:ze prog 87 zdy:=by
 refine zh' f87 λc hs O w0 Q hq=> ?_
 replace hq:=hq _ rfl;refine zc.n zw [] (.R [.bool (bif bif decide ((97:Int)<=(↑(UInt8.toNat c):Int)) then decide ((↑(UInt8.toNat c):Int)<=122) else false then true else bif decide ((65:Int)<=(↑(UInt8.toNat c):Int)) then decide ((↑(UInt8.toNat c):Int)<=90) else false)] []) ?_;simp only [Tree.holds,zf];refine RetR.scal hq rfl ?_;simp only [resV];rw [zpn]
theorem Ko(c d:UInt8):decide ((c.toNat:Int)=(d.toNat:Int))=(c == d):=by
 by_cases h:c=d
 ·subst h; simp
 ·rw [aW λh2=>h (ZY h2)];simp [h]
theorem zr9(c:UInt8):(bif decide ((c.toNat:Int)<48) then true else decide (57<(c.toNat:Int))) = !isD c:=by
 rw [Bool.cond_eq_ite]; exact yS c
theorem znt(c:UInt8):(bif bif bif !isL c then bif decide ((c.toNat:Int)<48) then true else decide (57<(c.toNat:Int)) else false then !decide ((c.toNat:Int)=95) else false then !decide ((c.toNat:Int)=45) else false) = !isN c:=by
 rw [zr9];have e1:decide ((c.toNat:Int)=95)=(c == 95):=Ko c 95;have e2:decide ((c.toNat:Int)=45)=(c == 45):=Ko c 45;rw [e1,e2]; simp only [isN];cases isL c<;>cases isD c<;>cases (c == 95)<;>cases (c == 45)<;>rfl
def Uu:Ctr:=ctrP true (λs:L8=>[.str s]) (λs=>s.length<2^62) (λs r=>r=qH s) (λ_ (r:Bool)=>(.bool r,[]))
noncomputable def GN1:=tb zfw tz
def SNa(s:L8)(i:Nat):KV:=[(0,.str s),(20,.i (s.length:Int)),(21,.i (i:Int)),Z 31,Z 32,Z 33,Z 34,Z 35,Z 36,Z 39,Z 40,Z 43,Z 44]
theorem zgg{O:Nat->Prop}{w0:World}{Q:AV×Heap->Prop}{Hs:Nat->KV->Heap->Prop}(s:L8)(hs:s.length<2^62)(hq:Q (.bool (s.all isN),[])) :
  zc prog f56 O 0 w0 [] Hs (RetR Uu 0 Q) (.code (.loop (lps K56 0).1)::(lps K56 0).2) (mk f56.ntmps (SNa s 0) []):=by
 refine zc.loop (ι:={i:Nat // i<=s.length/\∀ j,j<i->isN (s.getD j 0)=true}) (λi=>SNa s i.1) (λ_=>[]) (λi=>s.length - i.1) ⟨0,aI _,λj hj=>by omega⟩ 0 ?_ ?_ (by kernel_rfl)
 ·exact⟨by simp [SNa],by simp,by kernel_rfl,aI _⟩
 ·rintro⟨i,hil,hib⟩;refine zc.n GN1.h [0,20,21,31,32,33,34,35,36,39,40,43,44] (let v1:=s.getD (i:Int).toNat (0:UInt8);.D ((i:Int)<s.length) (.side ((0:Int)<=i/\(i:Int)<s.length) (.ex (λ(x:UInt8)=>eqL [.int .u8 ↑(UInt8.toNat v1)] [.int .u8 ↑(UInt8.toNat x)]/\True) λn=>.all (λ(r:Bool)=>r=isL n) λn=>.ite (bif bif bif !n then bif decide ((↑(UInt8.toNat v1):Int)<48) then true else decide ((57:Int)<(↑(UInt8.toNat v1):Int)) else false then !decide ((↑(UInt8.toNat v1):Int)=95) else false then !decide ((↑(UInt8.toNat v1):Int)=45) else false) (.R [.bool false] []) (.S (i+1) (.leaf (.back 0 [(0,.str s),(20,.i s.length),(21,.i (i+1)),Z 31,Z 32,Z 33,Z 34,Z 35,Z 36,Z 39,Z 40,Z 43,Z 44] []))))) (.R [.bool true] [])) ?_;simp only [Tree.holds,zf,inR,lo,hi,aD];refine⟨λhlt=> ?_,λhge=> ?_⟩
  ·have hlt:i<s.length:=by have:=aB hlt; omega
   refine⟨by omega,λ_=>⟨s.getD i 0,⟨by simp,trivial⟩,⟨_,rfl⟩,?_⟩⟩;rintro _ rfl;rw [znt];refine⟨λh=> ?_,λh=>⟨by omega,λ_=> ?_⟩⟩
   ·rw [Yv hlt (by simpa using h)] at hq;exact RetR.scal hq rfl (by simp [resV])
   ·rw [aP trivial];refine⟨⟨i+1,hlt,λj hj=> ?_⟩,by show s.length - (i+1)<s.length - i; omega,by simp [SNa],by simp,by kernel_rfl,aI _⟩;rcases aR j i with h1 | h1
    ·exact hib j h1
    ·have:j=i:=by omega
     rw [this]; simpa using h
  ·have hge:i=s.length:=by have:=aC hge; omega
   subst hge;rw [zon hib] at hq;exact RetR.scal hq rfl (by simp [resV])
theorem XC:ze prog 56 Uu:=by
 refine zh' f56 λs hs O w0 Q hq=> ?_
 replace hq:=hq _ rfl;refine zc.n GN1.h [0,20,21,31,32,33,34,35,36,39,40,43,44] (.side ((bif decide ((s.length:Int)<1) then true else decide ((40:Int)<s.length))=false->(0:Int)<=0/\(0:Int)<s.length) (.ex (λ(x:UInt8)=>(bif decide ((s.length:Int)<1) then true else decide ((40:Int)<s.length))=false->eqL [.int .u8 ↑(UInt8.toNat (s.getD 0 (0:UInt8)))] [.int .u8 ↑(UInt8.toNat x)]/\True) λn=>.all (λ(x:Bool)=>(bif decide ((s.length:Int)<1) then true else decide ((40:Int)<s.length))=false->x=isL n) λn=>.ite (bif bif decide ((s.length:Int)<1) then true else decide ((40:Int)<s.length) then true else !n) (.R [.bool false] []) (.leaf (.loop (lps K56 0).1 (lps K56 0).2 [(0,.str s),(20,.i s.length),(21,.i 0),Z 31,Z 32,Z 33,Z 34,Z 35,Z 36,Z 39,Z 40,Z 43,Z 44] [])))) ?_;simp only [Tree.holds,zf,inR,lo,hi]
 have hd:decide ((s.length:Int)<1) = !decide (0<s.length):=by
  by_cases h:0<s.length
  ·rw [aX h,aW (by omega)]; rfl
  ·rw [aW h,aX (by omega)]; rfl
 have hd2:decide (40<(s.length:Int)) = !decide (s.length<=40):=by
  by_cases h:s.length<=40
  ·rw [aX h,aW (by omega)]; rfl
  ·rw [aW h,aX (by omega)]; rfl
 rw [hd,hd2];have hnb:qH s=(decide (0<s.length)&&decide (s.length<=40)&&isL (s.getD 0 0)&&s.all isN):=rfl;cases h1:decide (0<s.length) with
 | false=>
  rw [hnb,h1] at hq;refine⟨λh=>(by cases h),λ_=>⟨0,λh=>(by cases h),⟨false,λh=>(by cases h)⟩,?_⟩⟩;intro b _;exact⟨λ_=>RetR.scal hq rfl (by simp [resV]),λh=>(by cases h)⟩
 | true=>
  have h1':=aB h1;cases h2:decide (s.length<=40) with
  | false=>
   rw [hnb,h1,h2] at hq;refine⟨λh=>(by cases h),λ_=>⟨0,λh=>(by cases h),⟨false,λh=>(by cases h)⟩,?_⟩⟩;intro b _;exact⟨λ_=>RetR.scal hq rfl (by simp [resV]),λh=>(by cases h)⟩
  | true=>
   refine⟨λ_=>by omega,λ_=>⟨s.getD 0 0,λ_=>⟨by simp,trivial⟩,⟨_,λ_=>rfl⟩,?_⟩⟩;intro b hb;have hb:=hb rfl;subst hb;cases h3:isL (s.getD 0 0) with
   | false=>
    rw [hnb,h1,h2,h3] at hq;exact⟨λ_=>RetR.scal hq rfl (by simp [resV]),λh=>(by cases h)⟩
   | true=>
    rw [hnb,h1,h2,h3] at hq;refine⟨λh=>(by cases h),λ_=> ?_⟩;exact zgg s hs hq
noncomputable def K145:=Go.Sx.aA f145
def zew:Ctr:=ctr2 true (λx y=>(canon x).length<100000/\(canon y).length<100000) (λx y d=>d=x+y) (λ_ _ d=>(magS d,[]))
def SPl(x y:Nat)(o:List Nat)(c i:Nat):KV:=[(1,magS y),(5,.osl 0 1 0 o.length),(6,.int .u32 (c:Int)),(21,magS x),(22,.i ((canon x).length:Int)),(23,.i (i:Int))]
structure IPl(x y:Nat) where
 o:List Nat
 c:Nat
 i:Nat
 len:o.length=i
 le:i<=(canon x).length
 dg:dig o
 c1:c<=1
 eq:val o+B^i*c=val ((canon x).take i)+val ((canon y).take i)
theorem zv6{x y o c i d c':Nat}{l m:List Nat}(h:o+B^i*c=val (l.take i)+val (m.take i))(he:d+B*c'=l.getD i 0+m.getD i 0+c):o+B^i*d+B^(i+1)*c'=val (l.take (i+1))+val (m.take (i+1)):=by
 rw [zt,zt,Nat.pow_succ];have:=congrArg (B^i * ·) he;simp only [bN] at this;rw [bI];omega
theorem RetR.zw4{ctr:Ctr}{Q:AV×Heap->Prop}{h:Heap}{i m n:Nat}{k:IntKind}{l:List Nat}{G:Nat->Nat->AV}(hq:Q (natS k l,[]))(hb:h[i]?=some (.arr m 1 G))(hn:n<=m)(hl:l.length=n)(hG:∀ j,j<n->G j 0 = .int k ((l.getD j 0:Nat):Int)):RetR ctr 0 Q [.osl i 1 0 n] h:=by
 refine RetR.out0 hq (λ_=> ?_) ?_
 ·refine W0 hb (by omega) λj o hj ho=> ?_
  have:o=0:=by omega
  subst this;simp only [zi,Nat.zero_add,hG j hj,qw]
 ·have e:exp2 h [] (resV [.osl i 1 0 n])=exp0 h [] (.osl i 1 0 n):=rfl;rw [e,yq hb (by omega),zdd];simp only [eqA2,natS];refine⟨hl.symm,rfl,λj o hj ho=> ?_⟩;have:o=0:=by omega
  subst this;rw [hG j hj]; rfl
theorem UT{O:Nat->Prop}{w0:World}{Q:AV×Heap->Prop}(x y:Nat)(hx:(canon x).length<100000)(hlen:(canon y).length<=(canon x).length)(hq:Q (magS (x+y),[]))(kv:KV)(h:Heap)(hle:LeK 0 f145.ntmps kv h (SPl x y [] 0 0) [.arr 0 1 (natG .u32 [])]) :
  zc prog f145 O 0 w0 [] (λ_ _ _=>False) (RetR zew 0 Q) (.code (.loop (lps K145 0).1)::(lps K145 0).2) (mk f145.ntmps kv h):=by
 refine zc.loop (ι:=IPl x y) (λs=>SPl x y s.o s.c s.i) (λs=>[.arr s.o.length 1 (natG .u32 s.o)]) (λs=>(canon x).length - s.i) ⟨[],0,0,rfl,aI _,by simp [dig],by omega,by simp [val]⟩ 0 hle ?_ (by kernel_rfl);rintro⟨o,c,i,ho,hle,hd,hc,he⟩;subst ho;have hB:B=1000000000:=rfl;refine zc.n G1.h [1,5,6,21,22,23] (let v8:=natG .u32 o;let v7:=inR .i64 (o.length+1);let v4:=o.length+1;let v1:=Int.toNat o.length;let v6:=Int.tdiv ((↑(List.getD (canon x) v1 0):Int)+c) (1000000000:Int);let v5:=zj 1 [.int .u32 (Int.tmod ((↑(List.getD (canon x) v1 0):Int)+c) (1000000000:Int))];let v3:=Int.tdiv ((↑(List.getD (canon x) v1 0):Int)+c+(↑(List.getD (canon y) v1 0):Int)) (1000000000:Int);let v2:=zj 1 [.int .u32 (Int.tmod ((↑(List.getD (canon x) v1 0):Int)+c+(↑(List.getD (canon y) v1 0):Int)) (1000000000:Int))];.D ((o.length:Int)<((canon x).length:Int)) (.side ((0:Int)<=o.length/\(o.length:Int)<((canon x).length:Int)) (.side (inR .u32 ((↑(List.getD (canon x) v1 0):Int)+c)) (.D ((o.length:Int)<((canon y).length:Int)) (.side ((0:Int)<=o.length/\(o.length:Int)<((canon y).length:Int)) (.side (inR .u32 ((↑(List.getD (canon x) v1 0):Int)+c+(↑(List.getD (canon y) v1 0):Int))) (.side ((1000000000:Int)≠0/\inR .u32 v3) (.side ((1000000000:Int)≠0) (.side (0=0/\o.length<=o.length/\v4 *4<=140737488355328) (.side v7 (.leaf (.back 0 [(1,.sl (canon y).length 1 (natG .u32 (canon y))),(5,.osl 0 1 0 v4),(6,.int .u32 v3),(21,.sl (canon x).length 1 (natG .u32 (canon x))),(22,.i (canon x).length),(23,.i (o.length+1))] [.arr v4 1 (appG o.length v8 (zi v2 0)),.arr 1 1 v2])))))))) (.side ((1000000000:Int)≠0/\inR .u32 v6) (.side ((1000000000:Int)≠0) (.side (0=0/\o.length<=o.length/\v4 *4<=140737488355328) (.side v7 (.leaf (.back 0 [(1,.sl (canon y).length 1 (natG .u32 (canon y))),(5,.osl 0 1 0 v4),(6,.int .u32 v6),(21,.sl (canon x).length 1 (natG .u32 (canon x))),(22,.i (canon x).length),(23,.i (o.length+1))] [.arr v4 1 (appG o.length v8 (zi v5 0)),.arr 1 1 v5]))))))))) (.side (0=0/\o.length<=o.length/\v4 *4<=140737488355328) (.ex (λ(u:List Nat)=>u.length=o.length+1/\0+(o.length+1)<=o.length+1/\o.length+1<4611686018427387904/\eqG v4 1 (appG o.length v8 (zi (zj 1 [.int .u32 c]) 0)) (natG .u32 u)/\dig (List.take v4 (List.drop 0 u))) λn=>.all (λ(x:Nat)=>x=val (List.take v4 (List.drop 0 n))) λn=>.R [.osl 0 1 0 (canon n).length] [.arr v4 1 (appG o.length v8 (zi (zj 1 [.int .u32 c]) 0)),.arr 1 1 (zj 1 [.int .u32 c])]))) ?_;simp only [Tree.holds,zf,inR,lo,hi,aD,ux];have ha:=zP (zm x) o.length;have hb:=zP (zm y) o.length
 have hnext:∀ d c':Nat,d<B->c'<=1->o.length<(canon x).length->d+B*c'=(canon x).getD o.length 0+(canon y).getD o.length 0+c ->
   ∃ s:IPl x y,s.o=o++[d]/\s.c=c'/\s.i=o.length+1:=λd c' h1 h2 h3 h4=>
  ⟨⟨o++[d],c',o.length+1,by simp,h3,qF.2 ⟨hd,by simp [dig,h1]⟩,h2,by rw [V8]; exact zv6 (x:=x) (y:=y) he h4⟩,rfl,rfl,rfl⟩
 have hdiv:∀ v:Nat,(v:Int).tdiv 1000000000=((v/B:Nat):Int)/\(v:Int).tmod 1000000000=((v%B:Nat):Int):=λv=>⟨rfl,rfl⟩
 have hq2:∀ v:Nat,v<2*B->v/B<=1/\v%B<B/\v%B+B*(v/B)=v:=λv hv=>⟨by have:=Nat.div_lt_of_lt_mul (show v<B*2 by omega); omega,Nat.mod_lt _ (by omega),Nat.mod_add_div _ _⟩
 refine⟨λhlt=> ?_,λhge=> ?_⟩
 ·have hlt:o.length<(canon x).length:=by have:=aB hlt; omega
  refine⟨by omega,λ_=>⟨by omega,λ_=>⟨λhb2=> ?_,λhb2=> ?_⟩⟩⟩
  ·have hb2:o.length<(canon y).length:=by have:=aB hb2; omega
   refine⟨by omega,λ_=>⟨by omega,λ_=> ?_⟩⟩;obtain⟨v,hv⟩:∃ v,(canon x).getD o.length 0+c+(canon y).getD o.length 0=v:=⟨_,rfl⟩;have ev:(((canon x).getD o.length 0:Nat):Int)+(c:Int)+(((canon y).getD o.length 0:Nat):Int)=(v:Int):=by omega
   rw [ev,(hdiv v).1,(hdiv v).2];obtain⟨g1,g2,g3⟩:=hq2 v (by omega);generalize v/B=q at g1 g3 ⊢;generalize v%B=r at g2 g3 ⊢;refine⟨⟨by decide,by omega,by omega⟩,λ_=>⟨by decide,λ_=>⟨⟨trivial,aJ _,by omega⟩,λ_=>⟨by omega,λ_=> ?_⟩⟩⟩⟩;obtain⟨s,h1,h2,h3⟩:=hnext r q g2 g1 hlt (by omega);rw [aP trivial];exact⟨s,by show _ - s.i<_; omega,by simp [SPl,h1,h2,h3,magS,natS,za],by rw [h1]; exact jv rfl,by kernel_rfl,aI _⟩
  ·have hb2:(canon y).length<=o.length:=by have:=aC hb2; omega
   have hb0:(canon y).getD o.length 0=0:=by simp [List.getD,aZ hb2]
   obtain⟨v,hv⟩:∃ v,(canon x).getD o.length 0+c=v:=⟨_,rfl⟩;have ev:(((canon x).getD o.length 0:Nat):Int)+(c:Int)=(v:Int):=by omega
   rw [ev,(hdiv v).1,(hdiv v).2];obtain⟨g1,g2,g3⟩:=hq2 v (by omega);generalize v/B=q at g1 g3 ⊢;generalize v%B=r at g2 g3 ⊢;refine⟨⟨by decide,by omega,by omega⟩,λ_=>⟨by decide,λ_=>⟨⟨trivial,aJ _,by omega⟩,λ_=>⟨by omega,λ_=> ?_⟩⟩⟩⟩;obtain⟨s,h1,h2,h3⟩:=hnext r q g2 g1 hlt (by omega);rw [aP trivial];exact⟨s,by show _ - s.i<_; omega,by simp [SPl,h1,h2,h3,magS,natS,za],by rw [h1]; exact jv rfl,by kernel_rfl,aI _⟩
 ·have hge:o.length=(canon x).length:=by have:=aC hge; omega
  have hv:val (o++[c])=x+y:=by
   rw [V8];rw [hge,bD,bF hlen,zq,zq] at he;rw [hge]; exact he
  have hdo:dig (o++[c]):=qF.2 ⟨hd,by simp [dig]; omega⟩
  have hpush:eqG (o.length+1) 1 (appG o.length (natG .u32 o) (zi (zj 1 [.int .u32 (c:Int)]) 0)) (natG .u32 (o++[c])):=by
   have:=Z9 (k:=.u32) (l:=o) (v:=(c:Int)) (by omega);simpa using this
  have hall:List.take (o.length+1) (List.drop 0 (o++[c]))=o++[c]:=by rw [List.drop_zero]; exact bF (by simp)
  refine⟨⟨trivial,aJ _,by omega⟩,λ_=>⟨o++[c],⟨by simp,by omega,by omega,hpush,by rw [hall]; exact hdo⟩,⟨_,rfl⟩,?_⟩⟩;intro X hX;have hX:X=x+y:=by rw [hX,hall,hv]
  subst hX;have htr:qU (o++[c])=canon (x+y):=by rw [zW hdo,hv]
  have htl:(canon (x+y)).length=tlen (o++[c]):=by rw [<- htr,qU,aH]; have:=qo (o++[c]); omega
  rw [htl];have hle2:=qo (o++[c]);have hln:(o++[c]).length=o.length+1:=by simp
  refine RetR.zw4 (l:=canon (x+y)) (k:=.u32) hq rfl (by omega) htl λj hj=> ?_
  have:=hpush j 0 (by omega) (by omega);rw [this,<- htr];simp only [natG,qU];rw [ZZ hj]
theorem ze5:ze prog 145 zew:=by
 refine Qm (fn:=f145) (c:=f145.body.getD .skip) rfl rfl rfl λx y hp O w0 Q hq=> ?_
 replace hq:=hq _ rfl;obtain⟨hx,hy⟩:=hp;refine zc.n G1.h [1,5,6,21,22,23] (let v1:=lps K145 0;.D (((canon x).length:Int)<((canon y).length:Int)) (.S ((canon y).length+1) (.side ((0:Int)<=0/\(0:Int)<=((canon y).length:Int)+(1:Int)/\inR .i64 ((canon y).length+1)/\Int.toNat ((canon y).length+1)*4<=140737488355328) (.leaf (.loop v1.1 v1.2 [(1,.sl (canon x).length 1 (natG .u32 (canon x))),(5,.osl 0 1 0 0),(6,.int .u32 0),(21,.sl (canon y).length 1 (natG .u32 (canon y))),(22,.i (canon y).length),(23,.i 0)] [.arr 0 1 (kT [.int .u32 0])])))) (.S ((canon x).length+1) (.side ((0:Int)<=0/\(0:Int)<=((canon x).length:Int)+(1:Int)/\inR .i64 ((canon x).length+1)/\Int.toNat ((canon x).length+1)*4<=140737488355328) (.leaf (.loop v1.1 v1.2 [(1,.sl (canon y).length 1 (natG .u32 (canon y))),(5,.osl 0 1 0 0),(6,.int .u32 0),(21,.sl (canon x).length 1 (natG .u32 (canon x))),(22,.i (canon x).length),(23,.i 0)] [.arr 0 1 (kT [.int .u32 0])]))))) ?_;simp only [Tree.holds,zf,inR,lo,hi];refine⟨λh=> ?_,λh=> ?_⟩
 ·have h:(canon x).length<(canon y).length:=by have:=aB h; omega
  refine⟨by omega,λ_=>⟨⟨by omega,by omega,by omega,by omega⟩,λ_=> ?_⟩⟩;rw [Nat.add_comm] at hq;exact UT y x hy (by omega) hq _ _ ⟨by simp [SPl,magS,natS,za],by simp [eqG],by kernel_rfl,aI _⟩
 ·have h:(canon y).length<=(canon x).length:=by have:=aC h; omega
  refine⟨by omega,λ_=>⟨⟨by omega,by omega,by omega,by omega⟩,λ_=> ?_⟩⟩;exact UT x y hx h hq _ _ ⟨by simp [SPl,magS,natS,za],by simp [eqG],by kernel_rfl,aI _⟩
def zff:Ctr:=ctrP false (λp:Bool×Nat=>[.bool p.1,magS p.2]) (λ_=>True) (λp r=>r=(p.1&&decide (0<p.2),p.2)) (λ_ (r:Bool×Nat)=>(numV r.1 r.2,[]))
theorem JQ{x:Nat} : decide (0<((canon x).length:Int))=decide (0<x):=by
 by_cases h:x=0
 ·subst h; simp [canon]
 ·have h1:0<x:=bW h;have h2:(canon x).length≠0:=λh2=>h (uP.1 h2)
  rw [aX (by omega),aX h1]
theorem RetR.numV{ctr:Ctr}{Q:AV×Heap->Prop}{h:Heap}{b:Bool}{x:Nat}(hf:ctr.fresh=false)(hq:Q (numV b x,[])):RetR ctr 0 Q [.agg [.bool b,magS x]] h:=by
 refine RetR.out0 hq (λh=>by rw [hf] at h; cases h) ?_;simp [resV,exp2,exp1,exp0,ren0,frz1,eqA2,eqL1,eqA,eqL0,eqA0,Tryz.numV,magS,natS,za]
theorem zpv:ze prog 144 zff:=by
 refine zh' f144 λp hp O w0 Q hq=> ?_
 obtain⟨b,x⟩:=p;replace hq:=hq _ rfl;refine zc.n zw [] (let v1:List AV:=[.bool (bif b then decide ((0:Int)<((canon x).length:Int)) else false),.sl (canon x).length 1 (natG .u32 (canon x))];.R [.agg v1] [.box v1]) ?_;simp only [Tree.holds,zf];rw [JQ];have e:(bif b then decide (0<x) else false)=(b&&decide (0<x)):=by cases b<;>rfl
 rw [e];exact RetR.numV rfl hq
def sumC:Ctr:=ctrP false (λp:(Bool×Nat)×(Bool×Nat)=>[numV p.1.1 p.1.2,numV p.2.1 p.2.2]) (λp=>(canon p.1.2).length<100000/\(canon p.2.2).length<100000)
 (λp r=>r=((sumS p.1.1 p.1.2 p.2.1 p.2.2).1&&decide (0<(sumS p.1.1 p.1.2 p.2.1 p.2.2).2),(sumS p.1.1 p.1.2 p.2.1 p.2.2).2)) (λ_ (r:Bool×Nat)=>(numV r.1 r.2,[]))
noncomputable def GSu:=tb zpv (tb ze5 (tb Zi (tb WN tz)))
abbrev q27(A:List AV)(x:Bool×Nat):Prop:=eqL A [.bool x.1,.sl (canon x.2).length 1 (natG .u32 (canon x.2))]/\True
abbrev q26(A:List AV)(x:Nat×Nat):Prop:=eqL A [.sl (canon x.1).length 1 (natG .u32 (canon x.1)),.sl (canon x.2).length 1 (natG .u32 (canon x.2))]/\List.length (canon x.1)<100000/\List.length (canon x.2)<100000
theorem zvt:ze prog 108 sumC:=by
 refine zh' f108 λp hp O w0 Q hq=> ?_
 obtain⟨⟨m,x⟩,⟨n,y⟩⟩:=p;obtain⟨h1,h2⟩:=hp;replace hq:=hq _ rfl;simp only at h1 h2 hq;refine zc.n GSu.h [] (let v8:=natG .u32 (canon x);let v7:=natG .u32 (canon y);let v3:List AV:=[.bool n,.sl (canon y).length 1 v7];let v2:List AV:=[.bool m,.sl (canon x).length 1 v8];let v1:=[AV.sl (canon x).length 1 v8,AV.sl (canon y).length 1 v7];.ite (m == n) (.ex (q26 v1) λn_1=>.all (λ(d:Nat)=>d=n_1.1+n_1.2) λn_2=>.ex (q27 [.bool m,.sl (canon n_2).length 1 (natG .u32 (canon n_2))]) λn_3=>.all (λ(r:Bool×Nat)=>r=(n_3.1&&decide (0<n_3.2),n_3.2)) λn_4=>let v4:List AV:=[.bool n_4.1,.sl (canon n_4.2).length 1 (natG .u32 (canon n_4.2))];.R [.agg v4] [.box v2,.box v3,.box v4]) (.ex (q11 v1) λn_1=>.all (λ(r:Int)=>r=cmp3 n_1.1 n_1.2) λn_2=>.D ((0:Int)<=n_2) (.ex (q12 v1) λn_3=>.all (λ(d:Nat)=>d=n_3.1 - n_3.2) λn_4=>.ex (q27 [.bool m,.sl (canon n_4).length 1 (natG .u32 (canon n_4))]) λn_5=>.all (λ(r:Bool×Nat)=>r=(n_5.1&&decide (0<n_5.2),n_5.2)) λn_6=>let v5:List AV:=[.bool n_6.1,.sl (canon n_6.2).length 1 (natG .u32 (canon n_6.2))];.R [.agg v5] [.box v2,.box v3,.box v5]) (.ex (q12 [.sl (canon y).length 1 v7,.sl (canon x).length 1 v8]) λn_3=>.all (λ(d:Nat)=>d=n_3.1 - n_3.2) λn_4=>.ex (q27 [.bool n,.sl (canon n_4).length 1 (natG .u32 (canon n_4))]) λn_5=>.all (λ(r:Bool×Nat)=>r=(n_5.1&&decide (0<n_5.2),n_5.2)) λn_6=>let v6:List AV:=[.bool n_6.1,.sl (canon n_6.2).length 1 (natG .u32 (canon n_6.2))];.R [.agg v6] [.box v2,.box v3,.box v6]))) ?_;simp only [q11,q12,q26,q27,Tree.holds,zf];have eL:∀ a b:Nat,eqL [.sl (canon a).length 1 (natG .u32 (canon a)),.sl (canon b).length 1 (natG .u32 (canon b))] [.sl (canon a).length 1 (natG .u32 (canon a)),.sl (canon b).length 1 (natG .u32 (canon b))]:=λa b=>⟨⟨rfl,rfl,za _ _ _⟩,⟨rfl,rfl,za _ _ _⟩,trivial⟩
 have eK:∀ (b:Bool) (a:Nat),eqL [.bool b,.sl (canon a).length 1 (natG .u32 (canon a))] [.bool b,.sl (canon a).length 1 (natG .u32 (canon a))]:=λb a=>⟨rfl,⟨rfl,rfl,za _ _ _⟩,trivial⟩
 have hcm:∀ v,v=cmp3 x y->(0<=v↔y<=x):=by
  rintro v rfl;unfold cmp3;split
  ·exact⟨λh=>by omega,λh=>by omega⟩
  ·split
   ·exact⟨λh=>by omega,λh=>by omega⟩
   ·exact⟨λh=>by omega,λh=>by omega⟩
 refine⟨λh=> ?_,λh=>⟨(x,y),⟨eL x y,by show(canon x).length<_; omega,by show(canon y).length<_; omega⟩,⟨_,rfl⟩,?_⟩⟩
 ·have h:m=n:=by simpa using h
  refine⟨(x,y),⟨eL x y,h1,h2⟩,⟨_,rfl⟩,?_⟩;rintro _ rfl;refine⟨(m,x+y),⟨eK m _,trivial⟩,⟨_,rfl⟩,?_⟩;rintro _ rfl;have e:sumS m x n y=(m,x+y):=aP h;rw [e] at hq;exact RetR.numV rfl hq
 ·have h:¬ m=n:=by simpa using h
  intro v hv;have hv:=hcm v hv;refine⟨λg=> ?_,λg=> ?_⟩
  ·have g:y<=x:=hv.1 (aB g);refine⟨(x,y),⟨eL x y,by show(canon x).length<_; omega,g⟩,⟨_,rfl⟩,?_⟩;rintro _ rfl;refine⟨(m,x - y),⟨eK m _,trivial⟩,⟨_,rfl⟩,?_⟩;rintro _ rfl;have e:sumS m x n y=(m,x - y):=by rw [sumS,aO h,aP g]
   rw [e] at hq;exact RetR.numV rfl hq
  ·have g:¬ y<=x:=λh3=>aC g (hv.2 h3)
   refine⟨(y,x),⟨eL y x,by show(canon y).length<_; omega,by show x<=y; omega⟩,⟨_,rfl⟩,?_⟩;rintro _ rfl;refine⟨(n,y - x),⟨eK n _,trivial⟩,⟨_,rfl⟩,?_⟩;rintro _ rfl;have e:sumS m x n y=(n,y - x):=by rw [sumS,aO h,aO g]
   rw [e] at hq;exact RetR.numV rfl hq
theorem qj{x n:Nat}(h:x<B^n)(hn:n<100000):(canon x).length<100000:=by have:=zD h; omega
theorem jb{s:L8}(h:errI s=0):numI s<B^112:=jZ.2 (Zt h)
theorem zdl{x y:Nat}(hx:x<B^112)(hy:y<B^112):x+y<B^113/\x*y<B^224:=by
 constructor
 ·have:B^113=B^112*B:=Nat.pow_succ B 112;have hB:B=1000000000:=rfl;generalize B^112=p at *
  rw [this,hB]; omega
 ·have:B^224=B^112*B^112:=by rw [<- Nat.pow_add]
  rw [this];exact Nat.mul_lt_mul_of_lt_of_lt hx hy
noncomputable def GAd:=tb XE (tb zvt (tb Vn (tb YW (tb Zi tz))))
def addC:Ctr:=ctrP true (λp:L8×L8=>[.str p.1,.str p.2]) (λp=>p.1.length<2^62/\p.2.length<2^62) (λp r=>r=addI p.1 p.2) (λ_ r=>(.tup [.str r.1,.i r.2],[]))
def subC:Ctr:=ctrP true (λp:L8×L8=>[.str p.1,.str p.2]) (λp=>p.1.length<2^62/\p.2.length<2^62) (λp r=>r=subI p.1 p.2) (λ_ r=>(.tup [.str r.1,.i r.2],[]))
def mulC:Ctr:=ctrP true (λp:L8×L8=>[.str p.1,.str p.2]) (λp=>p.1.length<2^62/\p.2.length<2^62) (λp r=>r=mulI p.1 p.2) (λ_ r=>(.tup [.str r.1,.i r.2],[]))
def zse:Ctr:=ctrP true (λp:L8×L8=>[.str p.1,.str p.2]) (λp=>p.1.length<2^62/\p.2.length<2^62) (λp r=>r=kB p.1 p.2) (λ_ r=>(.tup [.i r.1,.i r.2],[]))
abbrev q28(A:List AV)(x:(Bool×Nat)×Bool×Nat):Prop:=eqL A [.agg [.bool x.1.1,.sl (canon x.1.2).length 1 (natG .u32 (canon x.1.2))],.agg [.bool x.2.1,.sl (canon x.2.2).length 1 (natG .u32 (canon x.2.2))]]/\List.length (canon x.1.2)<100000/\List.length (canon x.2.2)<100000
theorem zv2:ze prog 88 addC:=by
 refine zh' f88 λp hp O w0 Q hq=> ?_
 obtain⟨s,t⟩:=p;obtain⟨hs,ht⟩:=hp;replace hq:=hq _ rfl;simp only at hs ht hq;refine zc.n GAd.h [] (.ex (q17 [.str s,.str t]) λn=>.all (λ(r:Int×(Bool×Nat)×Bool×Nat)=>r=if zx n.1 n.2=0 then((0:Int),(negI n.1,numI n.1),negI n.2,numI n.2) else(zx n.1 n.2,(false,0),false,0)) λn=>let v4:=canon n.2.2.2;let v3:=canon n.2.1.2;let v1:List Blk:=[.box [.bool n.2.1.1,.sl v3.length 1 (natG .u32 v3)],.box [.bool n.2.2.1,.sl v4.length 1 (natG .u32 v4)]];.N (n.1=0) (.R [.str #[].toList,.i n.1] v1) (.ex (q28 [.agg [.bool n.2.1.1,.sl v3.length 1 (natG .u32 v3)],.agg [.bool n.2.2.1,.sl v4.length 1 (natG .u32 v4)]]) λn_1=>let v2:=sumS n_1.1.1 n_1.1.2 n_1.2.1 n_1.2.2;.all (λ(r:Bool×Nat)=>r=(Prod.fst v2 &&decide (0<Prod.snd v2),Prod.snd v2)) λn_2=>.ex (q19 [.agg [.bool n_2.1,.sl (canon n_2.2).length 1 (natG .u32 (canon n_2.2))]]) λn_3=>.all (λ(r:L8×Int)=>r=wr n_3.1 n_3.2) λn_4=>.R [.str n_4.1,.i n_4.2] v1)) ?_;simp only [q17,q19,q28,Tree.holds,zf];refine⟨(s,t),⟨by simp,by omega,by omega⟩,⟨_,rfl⟩,?_⟩;rintro _ rfl;simp only;by_cases he:zx s t=0
 ·obtain⟨e1,e2⟩:=zn.1 he;obtain⟨b1,b2⟩:=zdl (jb e1) (jb e2);have c1:=qj (jb e1) (by decide);have c2:=qj (jb e2) (by decide);simp only [aP he];refine⟨λh=>(by simp at h),λ_=> ?_⟩;refine⟨((negI s,numI s),(negI t,numI t)),⟨⟨⟨rfl,⟨rfl,rfl,za _ _ _⟩,trivial⟩,⟨rfl,⟨rfl,rfl,za _ _ _⟩,trivial⟩,trivial⟩,c1,c2⟩,⟨_,rfl⟩,?_⟩;rintro _ rfl;refine⟨((sumS (negI s) (numI s) (negI t) (numI t)).1&&decide (0<(sumS (negI s) (numI s) (negI t) (numI t)).2),(sumS (negI s) (numI s) (negI t) (numI t)).2),⟨⟨⟨rfl,⟨rfl,rfl,za _ _ _⟩,trivial⟩,trivial⟩,?_⟩,⟨_,rfl⟩,?_⟩
  ·have:=qj (Nat.lt_of_le_of_lt (zds (negI s) (numI s) (negI t) (numI t)) b1) (by decide);show(canon (sumS (negI s) (numI s) (negI t) (numI t)).2).length<1000000;omega
  rintro _ rfl;rw [ze1];have e:addI s t=wr (sumS (negI s) (numI s) (negI t) (numI t)).1 (sumS (negI s) (numI s) (negI t) (numI t)).2:=aP he;rw [e] at hq;exact RetR.scal hq rfl (by simp [resV])
 ·simp only [aO he];refine⟨λ_=> ?_,λh=>(by simp [he] at h)⟩;have e:addI s t=([],zx s t):=aO he;rw [e] at hq;exact RetR.scal hq rfl (by simp [resV])
theorem zu2:ze prog 79 subC:=by
 refine zh' f79 λp hp O w0 Q hq=> ?_
 obtain⟨s,t⟩:=p;obtain⟨hs,ht⟩:=hp;replace hq:=hq _ rfl;simp only at hs ht hq;refine zc.n GAd.h [] (.ex (q17 [.str s,.str t]) λn=>.all (λ(r:Int×(Bool×Nat)×Bool×Nat)=>r=if zx n.1 n.2=0 then((0:Int),(negI n.1,numI n.1),negI n.2,numI n.2) else(zx n.1 n.2,(false,0),false,0)) λn=>let v5:=canon n.2.1.2;let v4:=canon n.2.2.2;let v3:List AV:=[.bool n.2.1.1,.sl v5.length 1 (natG .u32 v5)];let v1:=bif !Prod.fst n.2.2 then decide ((0:Int)<((canon n.2.2.2).length:Int)) else false;.N (n.1=0) (.R [.str #[].toList,.i n.1] [.box v3,.box [.bool n.2.2.1,.sl v4.length 1 (natG .u32 v4)]]) (.ex (q28 [.agg [.bool n.2.1.1,.sl v5.length 1 (natG .u32 v5)],.agg [.bool v1,.sl v4.length 1 (natG .u32 v4)]]) λn_1=>let v2:=sumS n_1.1.1 n_1.1.2 n_1.2.1 n_1.2.2;.all (λ(r:Bool×Nat)=>r=(Prod.fst v2 &&decide (0<Prod.snd v2),Prod.snd v2)) λn_2=>.ex (q19 [.agg [.bool n_2.1,.sl (canon n_2.2).length 1 (natG .u32 (canon n_2.2))]]) λn_3=>.all (λ(r:L8×Int)=>r=wr n_3.1 n_3.2) λn_4=>.R [.str n_4.1,.i n_4.2] [.box v3,.box [.bool v1,.sl v4.length 1 (natG .u32 v4)]])) ?_;simp only [q17,q19,q28,Tree.holds,zf];refine⟨(s,t),⟨by simp,by omega,by omega⟩,⟨_,rfl⟩,?_⟩;rintro _ rfl;simp only;by_cases he:zx s t=0
 ·obtain⟨e1,e2⟩:=zn.1 he;obtain⟨b1,b2⟩:=zdl (jb e1) (jb e2);have c1:=qj (jb e1) (by decide);have c2:=qj (jb e2) (by decide);simp only [aP he];refine⟨λh=>(by simp at h),λ_=> ?_⟩;have eN:(bif !negI t then decide (0<((canon (numI t)).length:Int)) else false)=(!negI t&&decide (0<numI t)):=by rw [JQ]; cases negI t<;>rfl
  rw [eN];refine⟨((negI s,numI s),(!negI t&&decide (0<numI t),numI t)),⟨⟨⟨rfl,⟨rfl,rfl,za _ _ _⟩,trivial⟩,⟨rfl,⟨rfl,rfl,za _ _ _⟩,trivial⟩,trivial⟩,c1,c2⟩,⟨_,rfl⟩,?_⟩;rintro _ rfl;simp only [zgp];refine⟨((sumS (negI s) (numI s) (!negI t) (numI t)).1&&decide (0<(sumS (negI s) (numI s) (!negI t) (numI t)).2),(sumS (negI s) (numI s) (!negI t) (numI t)).2),⟨⟨⟨rfl,⟨rfl,rfl,za _ _ _⟩,trivial⟩,trivial⟩,?_⟩,⟨_,rfl⟩,?_⟩
  ·have:=qj (Nat.lt_of_le_of_lt (zds (negI s) (numI s) (!negI t) (numI t)) b1) (by decide);show(canon (sumS (negI s) (numI s) (!negI t) (numI t)).2).length<1000000;omega
  rintro _ rfl;rw [ze1];have e:subI s t=wr (sumS (negI s) (numI s) (!negI t) (numI t)).1 (sumS (negI s) (numI s) (!negI t) (numI t)).2:=aP he;rw [e] at hq;exact RetR.scal hq rfl (by simp [resV])
 ·simp only [aO he];refine⟨λ_=> ?_,λh=>(by simp [he] at h)⟩;have e:subI s t=([],zx s t):=aO he;rw [e] at hq;exact RetR.scal hq rfl (by simp [resV])
theorem zuh:ze prog 77 mulC:=by
 refine zh' f77 λp hp O w0 Q hq=> ?_
 obtain⟨s,t⟩:=p;obtain⟨hs,ht⟩:=hp;replace hq:=hq _ rfl;simp only at hs ht hq;refine zc.n GAd.h [] (.ex (q17 [.str s,.str t]) λn=>.all (λ(r:Int×(Bool×Nat)×Bool×Nat)=>r=if zx n.1 n.2=0 then((0:Int),(negI n.1,numI n.1),negI n.2,numI n.2) else(zx n.1 n.2,(false,0),false,0)) λn=>let v5:=canon n.2.1.2;let v4:=canon n.2.2.2;let v3:List AV:=[.bool n.2.2.1,.sl v4.length 1 (natG .u32 v4)];let v2:List AV:=[.bool n.2.1.1,.sl v5.length 1 (natG .u32 v5)];.N (n.1=0) (.R [.str #[].toList,.i n.1] [.box v2,.box v3]) (.ex (q11 [.sl v5.length 1 (natG .u32 v5),.sl v4.length 1 (natG .u32 v4)]) λn_1=>let v1:=List.length (canon n_1.1)+List.length (canon n_1.2);.all (λ(p:Nat)=>p=n_1.1*n_1.2) λn_2=>.ex (q19 [.agg [.bool !Prod.fst n.2.1 == n.2.2.1,.sl (canon n_2).length 1 (zi (natG .u32 (padN v1 n_2)) 0)]]) λn_3=>.all (λ(r:L8×Int)=>r=wr n_3.1 n_3.2) λn_4=>.R [.str n_4.1,.i n_4.2] [.box v2,.box v3,.arr v1 1 (natG .u32 (padN v1 n_2))])) ?_;simp only [q11,q17,q19,Tree.holds,zf];refine⟨(s,t),⟨by simp,by omega,by omega⟩,⟨_,rfl⟩,?_⟩;rintro _ rfl;simp only;by_cases he:zx s t=0
 ·obtain⟨e1,e2⟩:=zn.1 he;obtain⟨b1,b2⟩:=zdl (jb e1) (jb e2);have c1:=qj (jb e1) (by decide);have c2:=qj (jb e2) (by decide);simp only [aP he];refine⟨λh=>(by simp at h),λ_=> ?_⟩;refine⟨(numI s,numI t),⟨⟨⟨rfl,rfl,za _ _ _⟩,⟨rfl,rfl,za _ _ _⟩,trivial⟩,by show(canon (numI s)).length<1000000; omega,by show(canon (numI t)).length<1000000; omega⟩,⟨_,rfl⟩,?_⟩;rintro _ rfl;refine⟨(negI s != negI t,numI s*numI t),⟨⟨⟨rfl,⟨rfl,rfl,λj o hj ho=>by simp only [zi,natG,Nat.zero_add,padN,xN hj]⟩,trivial⟩,trivial⟩,?_⟩,⟨_,rfl⟩,?_⟩
  ·have:=qj b2 (by decide);show(canon (numI s*numI t)).length<1000000;omega
  rintro _ rfl;have e:mulI s t=wr (negI s != negI t) (numI s*numI t):=aP he;rw [e] at hq;exact RetR.scal hq rfl (by simp [resV])
 ·simp only [aO he];refine⟨λ_=> ?_,λh=>(by simp [he] at h)⟩;have e:mulI s t=([],zx s t):=aO he;rw [e] at hq;exact RetR.scal hq rfl (by simp [resV])
theorem zru:ze prog 80 zse:=by
 refine zh' f80 λp hp O w0 Q hq=> ?_
 obtain⟨s,t⟩:=p;obtain⟨hs,ht⟩:=hp;replace hq:=hq _ rfl;simp only at hs ht hq;refine zc.n GAd.h [] (.ex (q17 [.str s,.str t]) λn=>.all (λ(r:Int×(Bool×Nat)×Bool×Nat)=>r=if zx n.1 n.2=0 then((0:Int),(negI n.1,numI n.1),negI n.2,numI n.2) else(zx n.1 n.2,(false,0),false,0)) λn=>let v3:=canon n.2.2.2;let v2:=canon n.2.1.2;let v1:List Blk:=[.box [.bool n.2.1.1,.sl v2.length 1 (natG .u32 v2)],.box [.bool n.2.2.1,.sl v3.length 1 (natG .u32 v3)]];.N (n.1=0) (.R [.i 0,.i n.1] v1) (.ite (bif n.2.1.1 then !Prod.fst n.2.2 else false) (.R [.i (-1:Int),.i 0] v1) (.ite (bif n.2.2.1 then !Prod.fst n.2.1 else false) (.R [.i 1,.i 0] v1) (.ite n.2.1.1 (.ex (q11 [.sl v3.length 1 (natG .u32 v3),.sl v2.length 1 (natG .u32 v2)]) λn_1=>.all (λ(r:Int)=>r=cmp3 n_1.1 n_1.2) λn_2=>.R [.i n_2,.i 0] v1) (.ex (q11 [.sl v2.length 1 (natG .u32 v2),.sl v3.length 1 (natG .u32 v3)]) λn_1=>.all (λ(r:Int)=>r=cmp3 n_1.1 n_1.2) λn_2=>.R [.i n_2,.i 0] v1))))) ?_;simp only [q11,q17,Tree.holds,zf];refine⟨(s,t),⟨by simp,by omega,by omega⟩,⟨_,rfl⟩,?_⟩;rintro _ rfl;simp only;by_cases he:zx s t=0
 ·obtain⟨e1,e2⟩:=zn.1 he;obtain⟨b1,b2⟩:=zdl (jb e1) (jb e2);have c1:=qj (jb e1) (by decide);have c2:=qj (jb e2) (by decide);simp only [aP he];refine⟨λh=>(by simp at h),λ_=> ?_⟩;have e:kB s t=(cmpZ (negI s) (numI s) (negI t) (numI t),0):=aP he;rw [e] at hq;have ec:∀ a b:Nat,cmp3 a b=cmpN a b:=λ_ _=>rfl
  simp only [cmpZ] at hq;have f1:fits (numI s):=by show(canon (numI s)).length<1000000; omega
  have f2:fits (numI t):=by show(canon (numI t)).length<1000000; omega
  refine⟨λh=> ?_,λh1=>⟨λh=> ?_,λh2=>⟨λh=>⟨(numI t,numI s),⟨⟨⟨rfl,rfl,za _ _ _⟩,⟨rfl,rfl,za _ _ _⟩,trivial⟩,f2,f1⟩,⟨_,rfl⟩,?_⟩,λh=>⟨(numI s,numI t),⟨⟨⟨rfl,rfl,za _ _ _⟩,⟨rfl,rfl,za _ _ _⟩,trivial⟩,f1,f2⟩,⟨_,rfl⟩,?_⟩⟩⟩⟩
  ·cases hm:negI s<;>cases hn:negI t<;>rw [hm,hn] at h hq<;>first | (cases h; done) | exact RetR.scal hq rfl (by simp [resV])
  ·cases hm:negI s<;>cases hn:negI t<;>rw [hm,hn] at h h1 hq<;>first | (cases h; done) | (cases h1; done) | exact RetR.scal hq rfl (by simp [resV])
  ·rintro _ rfl;rw [ec];cases hm:negI s<;>cases hn:negI t<;>rw [hm,hn] at h1 h2 hq<;>rw [hm] at h<;>first | (cases h; done) | (cases h1; done) | (cases h2; done) | exact RetR.scal hq rfl (by simp [resV])
  ·rintro _ rfl;rw [ec];cases hm:negI s<;>cases hn:negI t<;>rw [hm,hn] at h1 h2 hq<;>rw [hm] at h<;>first | (cases h; done) | (cases h1; done) | (cases h2; done) | exact RetR.scal hq rfl (by simp [resV])
 ·simp only [aO he];refine⟨λ_=> ?_,λh=>(by simp [he] at h)⟩;have e:kB s t=(0,zx s t):=aO he;rw [e] at hq;exact RetR.scal hq rfl (by simp [resV])
def dmC:Ctr:=ctrP true (λp:L8×L8=>[.str p.1,.str p.2]) (λp=>p.1.length<2^62/\p.2.length<2^62) (λp r=>r=dmI p.1 p.2) (λ_ r=>(.tup [.str r.1,.str r.2.1,.i r.2.2],[]))
noncomputable def GDm:=tb XE (tb K1 (tb ze5 (tb WN (tb Vn tz))))
theorem zhe:ze prog 143 dmC:=by
 refine zh' f143 λp hp O w0 Q hq=> ?_
 obtain⟨s,t⟩:=p;obtain⟨hs,ht⟩:=hp;replace hq:=hq _ rfl;simp only at hs ht hq;refine zc.n GDm.h [] (.ex (q17 [.str s,.str t]) λn=>.all (λ(r:Int×(Bool×Nat)×Bool×Nat)=>r=if zx n.1 n.2=0 then((0:Int),(negI n.1,numI n.1),negI n.2,numI n.2) else(zx n.1 n.2,(false,0),false,0)) λn=>let v5:=canon n.2.1.2;let v4:List AV:=[.bool n.2.1.1,.sl v5.length 1 (natG .u32 v5)];let v3:=canon n.2.2.2;let v6:List AV:=[.bool n.2.2.1,.sl v3.length 1 (natG .u32 v3)];let v2:List Blk:=[.box v4,.box v6,.arr 1 1 (zj 1 [.int .u32 1])];let v1:List Blk:=[.box v4,.box v6];.N (n.1=0) (.R [.str #[].toList,.str #[].toList,.i n.1] v1) (.D (((canon n.2.2.2).length:Int)=0) (.R [.str #[].toList,.str #[].toList,.i 16] v1) (.ex (q18 [.sl v5.length 1 (natG .u32 v5),.sl v3.length 1 (natG .u32 v3)]) λn_1=>.all (λ(r:Nat×Nat)=>r=(n_1.1/n_1.2,n_1.1%n_1.2)) λn_2=>let v8:=canon n_2.2;let v7:=canon n_2.1;.ite (bif n.2.1.1 then decide ((0:Int)<((canon n_2.2).length:Int)) else false) (.ex (q26 [.sl v7.length 1 (natG .u32 v7),.sl 1 1 (zi (zj 1 [.int .u32 1]) 0)]) λn_3=>.all (λ(d:Nat)=>d=n_3.1+n_3.2) λn_4=>.ex (q12 [.sl v3.length 1 (natG .u32 v3),.sl v8.length 1 (natG .u32 v8)]) λn_5=>.all (λ(d:Nat)=>d=n_5.1 - n_5.2) λn_6=>.ex (q19 [.agg [.bool !Prod.fst n.2.1 == n.2.2.1,.sl (canon n_4).length 1 (natG .u32 (canon n_4))]]) λn_7=>.all (λ(r:L8×Int)=>r=wr n_7.1 n_7.2) λn_8=>.N (n_8.2=0) (.R [.str #[].toList,.str #[].toList,.i n_8.2] v2) (.ex (q19 [.agg [.bool false,.sl (canon n_6).length 1 (natG .u32 (canon n_6))]]) λn_9=>.all (λ(r:L8×Int)=>r=wr n_9.1 n_9.2) λn_10=>.R [.str n_8.1,.str n_10.1,.i 0] v2)) (.ex (q19 [.agg [.bool !Prod.fst n.2.1 == n.2.2.1,.sl v7.length 1 (natG .u32 v7)]]) λn_3=>.all (λ(r:L8×Int)=>r=wr n_3.1 n_3.2) λn_4=>.N (n_4.2=0) (.R [.str #[].toList,.str #[].toList,.i n_4.2] v1) (.ex (q19 [.agg [.bool false,.sl v8.length 1 (natG .u32 v8)]]) λn_5=>.all (λ(r:L8×Int)=>r=wr n_5.1 n_5.2) λn_6=>.R [.str n_4.1,.str n_6.1,.i 0] v1))))) ?_;simp only [q12,q17,q18,q19,q26,Tree.holds,zf];refine⟨(s,t),⟨by simp,by omega,by omega⟩,⟨_,rfl⟩,?_⟩;rintro _ rfl;simp only;by_cases he:zx s t=0
 ·obtain⟨e1,e2⟩:=zn.1 he;have c1:=qj (jb e1) (by decide);have c2:=qj (jb e2) (by decide);simp only [aP he];refine⟨λh=>(by simp at h),λ_=> ?_⟩;refine⟨λh0=> ?_,λh0=> ?_⟩
  ·have h0:numI t=0:=uP.1 (by have:=aB h0; omega);have e:dmI s t=([],[],16):=by rw [dmI,aO (by rw [he]; decide),aP h0]
   rw [e] at hq;exact RetR.scal hq rfl (by simp [resV])
  have h0:numI t≠0:=λh=>aC h0 (by rw [uP.2 h]; rfl)
  have e:dmI s t=((wr (negI s != negI t) (dmQ s t)).1,(wr false (dmM s t)).1,0):=by rw [dmI,aO (by rw [he]; decide),aO h0]
  rw [e] at hq;have rq:=zld e1 h0;have rm:=znr (s:=s) e2 h0;have eL:∀ a b:Nat,eqL [.sl (canon a).length 1 (natG .u32 (canon a)),.sl (canon b).length 1 (natG .u32 (canon b))] [.sl (canon a).length 1 (natG .u32 (canon a)),.sl (canon b).length 1 (natG .u32 (canon b))]:=λa b=>⟨⟨rfl,rfl,za _ _ _⟩,⟨rfl,rfl,za _ _ _⟩,trivial⟩
  have eV:∀ (b:Bool) (a:Nat),eqL [.agg [.bool b,.sl (canon a).length 1 (natG .u32 (canon a))]] [.agg [.bool b,.sl (canon a).length 1 (natG .u32 (canon a))]]:=λb a=>⟨⟨rfl,⟨rfl,rfl,za _ _ _⟩,trivial⟩,trivial⟩
  have big:∀ {a:Nat},room a->(canon a).length<1000000:=λ{a} h=>by
   obtain⟨h3,h4,_⟩:=Jj (kU (neg:=false) h);have:=qj (jb h3) (by decide);rw [h4] at this; omega
  refine⟨(numI s,numI t),⟨eL _ _,c1,c2,bW h0⟩,⟨_,rfl⟩,?_⟩;rintro _ rfl;simp only;rw [JQ];have hmod:=Nat.mod_lt (numI s) (bW h0);refine⟨λhc=> ?_,λhc=> ?_⟩
  ·have hc:negI s=true/\0<numI s%numI t:=by
    cases hn:negI s with
    | false=>rw [hn] at hc; cases hc
    | true=>rw [hn] at hc; exact⟨rfl,aB hc⟩
   have eQ:dmQ s t=numI s/numI t+1:=aP hc;have eM:dmM s t=numI t - numI s%numI t:=aP hc;rw [eQ,eM] at hq;rw [eQ] at rq;rw [eM] at rm
   have hone:canon 1=[1]:=by
    rw [jr (by decide)];exact congrArg (1 :: ·) zX
   have rdiv:=room_le (Nat.div_le_self (numI s) (numI t)) (jQ e1)
   have hdl:(canon (numI s/numI t)).length<100000:=by
    have:=qj (Nat.lt_of_le_of_lt (Nat.div_le_self (numI s) (numI t)) (jb e1)) (by decide);exact this
   refine⟨(numI s/numI t,1),⟨⟨⟨rfl,rfl,za _ _ _⟩,⟨by rw [hone]; rfl,rfl,?_⟩,trivial⟩,hdl,by show(canon 1).length<100000; rw [hone]; decide⟩,⟨_,rfl⟩,?_⟩
   ·intro j o hj ho;have:j=0:=by omega
    subst this;have:o=0:=by omega
    subst this;show AV.int .u32 1 = .int .u32 (((canon 1).getD 0 0:Nat):Int);rw [hone]; rfl
   rintro _ rfl;refine⟨(numI t,numI s%numI t),⟨eL _ _,by show(canon (numI t)).length<1000000; omega,by show numI s%numI t<=numI t; omega⟩,⟨_,rfl⟩,?_⟩;rintro _ rfl;refine⟨(negI s != negI t,numI s/numI t+1),⟨eV _ _,big rq⟩,⟨_,rfl⟩,?_⟩;rintro _ rfl;have hz:=kU (neg:=(negI s != negI t)) rq;refine⟨λh=>by simp [hz] at h,λ_=>⟨(false,numI t - numI s%numI t),⟨eV _ _,big rm⟩,⟨_,rfl⟩,?_⟩⟩;rintro _ rfl;exact RetR.scal hq rfl (by simp [resV])
  ·have hc:¬ (negI s=true/\0<numI s%numI t):=by
    rintro⟨g1,g2⟩;rw [g1,aX g2] at hc;cases hc
   have eQ:dmQ s t=numI s/numI t:=aO hc;have eM:dmM s t=numI s%numI t:=aO hc;rw [eQ,eM] at hq;rw [eQ] at rq;rw [eM] at rm;refine⟨(negI s != negI t,numI s/numI t),⟨eV _ _,big rq⟩,⟨_,rfl⟩,?_⟩;rintro _ rfl;have hz:=kU (neg:=(negI s != negI t)) rq;refine⟨λh=>by simp [hz] at h,λ_=>⟨(false,numI s%numI t),⟨eV _ _,big rm⟩,⟨_,rfl⟩,?_⟩⟩;rintro _ rfl;exact RetR.scal hq rfl (by simp [resV])
 ·simp only [aO he];refine⟨λ_=> ?_,λh=>(by simp [he] at h)⟩;have e:dmI s t=([],[],zx s t):=aP he;rw [e] at hq;exact RetR.scal hq rfl (by simp [resV])
def kX:Ctr:=ctrP true (λs:L8=>[.str s]) (λs=>s.length<2^62) (λs r=>r=if errR s=0 then(numR s,denR s,0) else([],[],errR s)) (λ_ (r:L8×L8×Int)=>(.tup [.str r.1,.str r.2.1,.i r.2.2],[]))
noncomputable def GPa:=tb uG (tb YV tz)
theorem zmo:ze prog 102 kX:=by
 refine zh' f102 λs hs O w0 Q hq=> ?_
 replace hq:=hq _ rfl;refine zc.n GPa.h [] (.ex (q15 [.str s]) λn=>.all (λ(r:Int)=>r=errR n) λn=>.N (n=0) (.R [.str #[].toList,.str #[].toList,.i n] []) (.ex (q15 [.str s]) λn=>.all (λ(r:L8×L8×Bool)=>r=cutR n) λn=>.ite (!Prod.snd n.2) (.R [.str n.1,.str #[(49:UInt8)].toList,.i 0] []) (.R [.str n.1,.str n.2.1,.i 0] []))) ?_;simp only [q15,Tree.holds,zf];refine⟨s,⟨by simp,hs⟩,⟨_,rfl⟩,?_⟩;rintro _ rfl;refine⟨λh=> ?_,λh=>⟨s,⟨by simp,hs⟩,⟨_,rfl⟩,?_⟩⟩
 ·have h:errR s≠0:=by simpa using h
  rw [aO h] at hq;exact RetR.scal hq rfl (by simp [resV])
 ·have h:errR s=0:=by simpa using h
  rw [aP h] at hq;rintro _ rfl;refine⟨λg=> ?_,λg=> ?_⟩
  ·have e:denR s=[49]:=by unfold denR; rw [aO (by simpa using g)]
   rw [e] at hq;exact RetR.scal hq rfl (by simp [resV,numR])
  ·have e:denR s=(cutR s).2.1:=by unfold denR; rw [aP (by simpa using g)]
   rw [e] at hq;exact RetR.scal hq rfl (by simp [resV,numR])
def zex:Ctr:=ctrP true (λp:L8×L8=>[.str p.1,.str p.2]) (λp=>p.1.length<2^62/\p.2.length<2^62) (λp r=>r=wy p.1 p.2) (λ_ r=>(.tup [.str r.1,.i r.2],[]))
noncomputable def GMk:=tb zly (tb zhe tz)
theorem zpb:ze prog 107 zex:=by
 refine zh' f107 λp hp O w0 Q hq=> ?_
 obtain⟨s,t⟩:=p;obtain⟨hs,ht⟩:=hp;replace hq:=hq _ rfl;simp only at hs ht hq;refine zc.n GMk.h [] (.ex (q17 [.str s,.str t]) λn=>.all (λ(r:L8×Int)=>r=gcdR n.1 n.2) λn=>.N (n.2=0) (.R [.str #[].toList,.i n.2] []) (.D (t=#[(48:UInt8)].toList) (.R [.str #[].toList,.i 16] []) (.side ((0:Int)<=0/\(0:Int)<t.length) (.D ((↑(UInt8.toNat (t.getD 0 (0:UInt8))):Int)=45) (.side (1+n.1.length<=9223372036854775807) (.ex (q17 [.str s,.str (#[(45:UInt8)].toList++n.1)]) λn_1=>.all (λ(r:L8×L8×Int)=>r=dmI n_1.1 n_1.2) λn_2=>.ex (q17 [.str t,.str (#[(45:UInt8)].toList++n.1)]) λn=>.all (λ(r:L8×L8×Int)=>r=dmI n.1 n.2) λn=>.D (n.1=#[(49:UInt8)].toList) (.R [.str n_2.1,.i 0] []) (.side (n_2.1.length+1<=9223372036854775807) (.side (List.length (n_2.1++#[(47:UInt8)].toList)+n.1.length<=9223372036854775807) (.R [.str (n_2.1++#[(47:UInt8)].toList++n.1),.i 0] []))))) (.ex (q17 [.str s,.str n.1]) λn_1=>.all (λ(r:L8×L8×Int)=>r=dmI n_1.1 n_1.2) λn_2=>.ex (q17 [.str t,.str n.1]) λn=>.all (λ(r:L8×L8×Int)=>r=dmI n.1 n.2) λn=>.D (n.1=#[(49:UInt8)].toList) (.R [.str n_2.1,.i 0] []) (.side (n_2.1.length+1<=9223372036854775807) (.side (List.length (n_2.1++#[(47:UInt8)].toList)+n.1.length<=9223372036854775807) (.R [.str (n_2.1++#[(47:UInt8)].toList++n.1),.i 0] [])))))))) ?_;simp only [q17,Tree.holds,zf,inR,lo,hi,aD];refine⟨(s,t),⟨by simp,by omega,by omega⟩,⟨_,rfl⟩,?_⟩;rintro _ rfl;by_cases he:zx s t=0
 ·obtain⟨e1,e2⟩:=zn.1 he;have eg:gcdR s t=wr false (Nat.gcd (numI s) (numI t)):=aP he;by_cases h0:numI t=0
  ·have ht0:t=[48]:=(yz e2).2 h0;have hg0:Nat.gcd (numI s) (numI t)=numI s:=by rw [h0,Nat.gcd_zero_right]
   have hz:(gcdR s t).2=0:=by rw [eg,hg0]; exact kU (jQ e1)
   have e:wy s t=([],16):=by rw [wy,aO (by rw [he]; decide),aP h0]
   rw [e] at hq;refine⟨λh=>(by simp [hz] at h),λ_=>⟨λ_=>RetR.scal hq rfl (by simp [resV]),λh=>(by simp [ht0] at h)⟩⟩
  ·obtain⟨g0,gr⟩:=UQ (s:=s) e2 h0;have hz:(gcdR s t).2=0:=by rw [eg]; exact kU gr
   have ht0:t≠[48]:=λh=>h0 ((yz e2).1 h)
   have htn:t≠[]:=by rintro rfl; simp [za4] at e2
   have hneg:=Km htn;have e:wy s t=(KG (negI s != negI t) (numI s) (numI t),0):=by rw [wy,aO (by rw [he]; decide),aO h0]
   rw [e,KG] at hq;have ds:Nat.gcd (numI s) (numI t) ∣ numI s:=Nat.gcd_dvd_left _ _;have dt:Nat.gcd (numI s) (numI t) ∣ numI t:=Nat.gcd_dvd_right _ _;generalize hgg:Nat.gcd (numI s) (numI t)=g at *
   have rt:=room_le (Nat.div_le_self (numI t) g) (jQ e2);have l1:=k5 false g;have l2:=k5 true g
   have fin:∀ b:Bool,b=negI t->∀ (z w:L8×L8×Int),z=dmI s (wr b g).1->w=dmI t (wr b g).1 ->
     (decide (w.1=[49])=true->RetR zex 0 Q [.str z.1,.i 0] [])/\(decide (w.1=[49])=false->z.1.length+1<=9223372036854775807/\(z.1.length+1<=9223372036854775807->(z.1++[47]).length+w.1.length<=9223372036854775807/\((z.1++[47]).length+w.1.length<=9223372036854775807->RetR zex 0 Q [.str (z.1++[47]++w.1),.i 0] []))):=by
    rintro b rfl z w rfl rfl;rw [Ut e1 g0 gr ds,Ut e2 g0 gr dt];simp only;have:(negI t != negI t)=false:=by simp
    rw [this];have k1:=k5 (negI s != negI t) (numI s/g);have k2:=k5 false (numI t/g);refine⟨λh=> ?_,λh=>⟨by omega,λ_=>⟨by simp; omega,λ_=> ?_⟩⟩⟩
    ·have h1:=(zcm rt).1 (aB h);rw [aP h1] at hq;exact RetR.scal hq rfl (by simp [resV])
    ·have h1:¬ numI t/g=1:=λh1=>aC h ((zcm rt).2 h1)
     rw [aO h1] at hq;exact RetR.scal hq rfl (by simp [resV])
   rw [eg] at hz ⊢;refine⟨λh=>(by simp [hz] at h),λ_=>⟨λh=>absurd (aB h) ht0,λ_=>⟨⟨by omega,by have:=List.length_pos_iff.2 htn; omega⟩,λ_=>⟨λhb=>⟨by omega,λ_=> ?_⟩,λhb=> ?_⟩⟩⟩⟩
   ·have hn:negI t=true:=by
     rw [hneg,aK];exact ZY (aB hb)
    rw [zlh g0 gr];refine⟨(s,(wr true g).1),⟨by simp,by show s.length<_; omega,by show(wr true g).1.length<_; omega⟩,⟨_,rfl⟩,?_⟩;intro z hz;refine⟨(t,(wr true g).1),⟨by simp,by show t.length<_; omega,by show(wr true g).1.length<_; omega⟩,⟨_,rfl⟩,?_⟩;intro w hw;exact fin true hn.symm z w hz hw
   ·have hn:negI t=false:=by
     rw [hneg,aV];intro h;apply aC hb;rw [h]; rfl
    refine⟨(s,(wr false g).1),⟨by simp,by show s.length<_; omega,by show(wr false g).1.length<_; omega⟩,⟨_,rfl⟩,?_⟩;intro z hz;refine⟨(t,(wr false g).1),⟨by simp,by show t.length<_; omega,by show(wr false g).1.length<_; omega⟩,⟨_,rfl⟩,?_⟩;intro w hw;exact fin false hn.symm z w hz hw
 ·have eg:gcdR s t=([],zx s t):=aO he;have e:wy s t=([],zx s t):=aP he;rw [e] at hq;rw [eg];exact⟨λ_=>RetR.scal hq rfl (by simp [resV]),λh=>by simp [he] at h⟩
noncomputable def K75:=Go.Sx.aA f75
structure Pr where
 n:L8
 m:L8
 d:L8
 c:L8
 e:Int
def Pr.box(p:Pr):Blk:=.box [.str p.n,.str p.m,.str p.d,.str p.c,.i p.e]
def Pr.err(p:Pr)(e:Int):Pr:=⟨p.n,p.m,p.d,p.c,e⟩
inductive QOp where
 | add | sub | mul
def QOp.fn:QOp->Nat
 | .add=>88
 | .sub=>79
 | .mul=>77
def QOp.has:QOp->Prop
 | .sub=>True
 | _=>True
def QOp.op:QOp->L8->L8->L8×Int
 | .add=>addI
 | .sub=>subI
 | .mul=>mulI
def j5(a b:L8):Pr:=if errR a≠0 then⟨[],[],[],[],errR a⟩ else if errR b≠0 then⟨numR a,[],denR a,[],errR b⟩ else⟨numR a,numR b,denR a,denR b,0⟩
def zof:Ctr:=ctrT false false (λp:L8×L8=>[.str p.1,.str p.2]) (λ_=>[]) (λp=>p.1.length<2^62/\p.2.length<2^62) (λp r=>r=j5 p.1 p.2) (λ_ (r:Pr)=>(.ptr 0 0,[r.box]))
def zkv:Ctr:=ctrT false false (λp:Pr×QOp=>[.ptr 0 0,.fn p.2.fn [] []]) (λp=>[p.1.box]) (λ_=>True) (λ_ (_:Unit)=>True) (λp _=>(.fn 103 [] [.ptr 1 0,.ptr 2 0],[p.1.box,.box [.ptr 0 0],.box [.fn p.2.fn [] []]]))
structure KX where
 p:Pr
 o:QOp
 x:L8
 y:L8
def zax:Ctr:=ctrT false false (λk:KX=>[.str k.x,.str k.y,.ptr 0 0,.ptr 2 0]) (λk=>[.box [.ptr 1 0],k.p.box,.box [.fn k.o.fn [] []]]) (λk=>k.x.length<2^62/\k.y.length<2^62/\k.o.has) (λk r=>r=if k.p.e≠0 then([],k.p.e) else k.o.op k.x k.y)
 (λk (r:L8×Int)=>(.str r.1,[.box [.ptr 1 0],(k.p.err r.2).box,.box [.fn k.o.fn [] []]]))
def ziu:Ctr:=ctrT false false (λk:Pr×L8×L8=>[.ptr 0 0,.str k.2.1,.str k.2.2]) (λk=>[k.1.box]) (λk=>k.2.1.length<2^62/\k.2.2.length<2^62) (λk r=>r=if k.1.e≠0 then([],k.1.e) else wy k.2.1 k.2.2)
 (λk (r:L8×Int)=>(.tup [.str r.1,.i r.2],[k.1.box]))
theorem zoj:ze prog 76 zkv:=by
 refine z9 (fn:=f76) (c:=f76.body.getD .skip) rfl rfl rfl (λh=>by cases h) λp hp O w0 I0 Q hl0 hq=> ?_
 obtain⟨p,o⟩:=p;replace hq:=hq () trivial;refine zc.n zw [] (.R [.fn 103 [] [.ptr 1 0,.ptr 2 0]] [.box [.str p.n,.str p.m,.str p.d,.str p.c,.i p.e],.box [.ptr 0 0],.box [.fn (QOp.fn o) [] []]]) ?_;simp only [Tree.holds,zf];refine RetR.keep [0,1,2] rfl rfl (by show ∀ j,j<1->_; decide) rfl hq ?_ ?_ rfl
 ·rfl
 ·exact⟨⟨rfl,rfl,rfl,rfl,⟨rfl,rfl⟩,trivial⟩,⟨⟨rfl,rfl⟩,trivial⟩,⟨rfl,trivial⟩,trivial⟩
noncomputable def GK1:=tb zv2 (tb zu2 (tb zuh tz))
theorem zjx:ze prog 103 zax:=by
 refine z9 (fn:=f103) (c:=f103.body.getD .skip) rfl rfl rfl (λh=>by cases h) λk hk O w0 I0 Q hl0 hq=> ?_
 obtain⟨⟨n,m,d,c,e⟩,o,x,y⟩:=k;obtain⟨h1,h2,h3⟩:=hk;replace hq:=hq _ rfl;simp only at h1 h2 h3 hq
 have fin:∀ r:L8×Int,(if e≠0 then([],e) else o.op x y)=r->RetR zax 3 Q [.str r.1] [.box [.ptr 1 0],.box [.str n,.str m,.str d,.str c,.i r.2],.box [.fn o.fn [] []]]:=by
  rintro r rfl;refine RetR.keep [0,1,2] rfl rfl (by show ∀ j,j<3->_; decide) rfl hq ?_ ?_ rfl
  ·rfl
  ·exact⟨⟨⟨rfl,rfl⟩,trivial⟩,⟨rfl,rfl,rfl,rfl,⟨rfl,rfl⟩,trivial⟩,⟨rfl,trivial⟩,trivial⟩
 cases o with
 | add=>
  refine zc.n GK1.h [] (.N (e=0) (.R [.str #[].toList] [.box [.ptr 1 0],.box [.str n,.str m,.str d,.str c,.i e],.box [.fn 88 [] []]]) (.ex (q17 [.str x,.str y]) λn_1=>.all (λ(r:L8×Int)=>r=addI n_1.1 n_1.2) λn_2=>.R [.str n_2.1] [.box [.ptr 1 0],.box [.str n,.str m,.str d,.str c,.i n_2.2],.box [.fn 88 [] []]])) ?_;simp only [q17,Tree.holds,zf];refine⟨λh=> ?_,λh=>⟨(x,y),⟨by simp,h1,h2⟩,⟨_,rfl⟩,?_⟩⟩
  ·have h:e≠0:=by simpa using h
   exact fin ([],e) (aP h)
  ·have h:e=0:=by simpa using h
   rintro _ rfl;exact fin (addI x y) (aO (by simp [h]))
 | sub=>
  refine zc.n GK1.h [] (.N (e=0) (.R [.str #[].toList] [.box [.ptr 1 0],.box [.str n,.str m,.str d,.str c,.i e],.box [.fn 79 [] []]]) (.ex (q17 [.str x,.str y]) λn_1=>.all (λ(r:L8×Int)=>r=subI n_1.1 n_1.2) λn_2=>.R [.str n_2.1] [.box [.ptr 1 0],.box [.str n,.str m,.str d,.str c,.i n_2.2],.box [.fn 79 [] []]])) ?_;simp only [q17,Tree.holds,zf];refine⟨λh=> ?_,λh=>⟨(x,y),⟨by simp,h1,h2⟩,⟨_,rfl⟩,?_⟩⟩
  ·have h:e≠0:=by simpa using h
   exact fin ([],e) (aP h)
  ·have h:e=0:=by simpa using h
   rintro _ rfl;exact fin (subI x y) (aO (by simp [h]))
 | mul=>
  refine zc.n GK1.h [] (.N (e=0) (.R [.str #[].toList] [.box [.ptr 1 0],.box [.str n,.str m,.str d,.str c,.i e],.box [.fn 77 [] []]]) (.ex (q17 [.str x,.str y]) λn_1=>.all (λ(r:L8×Int)=>r=mulI n_1.1 n_1.2) λn_2=>.R [.str n_2.1] [.box [.ptr 1 0],.box [.str n,.str m,.str d,.str c,.i n_2.2],.box [.fn 77 [] []]])) ?_;simp only [q17,Tree.holds,zf];refine⟨λh=> ?_,λh=>⟨(x,y),⟨by simp,h1,h2⟩,⟨_,rfl⟩,?_⟩⟩
  ·have h:e≠0:=by simpa using h
   exact fin ([],e) (aP h)
  ·have h:e=0:=by simpa using h
   rintro _ rfl;exact fin (mulI x y) (aO (by simp [h]))
noncomputable def GMd:=tb zpb tz
theorem zpu:ze prog 78 ziu:=by
 refine z9 (fn:=f78) (c:=f78.body.getD .skip) rfl rfl rfl (λh=>by cases h) λk hk O w0 I0 Q hl0 hq=> ?_
 obtain⟨⟨n,m,d,c,e⟩,x,y⟩:=k;obtain⟨h1,h2⟩:=hk;replace hq:=hq _ rfl;simp only at h1 h2 hq
 have fin:∀ r:L8×Int,(if e≠0 then([],e) else wy x y)=r->RetR ziu 1 Q [.str r.1,.i r.2] [.box [.str n,.str m,.str d,.str c,.i e]]:=by
  rintro r rfl;refine RetR.keep [0] rfl rfl (by show ∀ j,j<1->_; decide) rfl hq ?_ ?_ rfl
  ·exact⟨rfl,⟨rfl,rfl⟩,trivial⟩
  ·exact⟨⟨rfl,rfl,rfl,rfl,⟨rfl,rfl⟩,trivial⟩,trivial⟩
 refine zc.n GMd.h [] (let v1:List Blk:=[.box [.str n,.str m,.str d,.str c,.i e]];.N (e=0) (.R [.str #[].toList,.i e] v1) (.ex (q17 [.str x,.str y]) λn_1=>.all (λ(r:L8×Int)=>r=wy n_1.1 n_1.2) λn_2=>.R [.str n_2.1,.i n_2.2] v1)) ?_;simp only [q17,Tree.holds,zf];refine⟨λh=> ?_,λh=>⟨(x,y),⟨by simp,h1,h2⟩,⟨_,rfl⟩,?_⟩⟩
 ·have h:e≠0:=by simpa using h
  exact fin ([],e) (aP h)
 ·have h:e=0:=by simpa using h
  rintro _ rfl;exact fin (wy x y) (aO (by simp [h]))
def Pst(a b:L8):Nat->Pr
 | 0=>⟨[],[],[],[],0⟩
 | 1=>if errR a≠0 then⟨[],[],[],[],errR a⟩ else⟨numR a,[],denR a,[],0⟩
 | _=>j5 a b
def SBq(a b:L8)(i:Nat):KV:=[(5,.ptr 0 0),(12,.agg [.str a,.str b]),(13,.i (i:Int))]
noncomputable def GBq:=tb zmo tz
theorem zje:ze prog 75 zof:=by
 refine z9 (fn:=f75) (c:=f75.body.getD .skip) rfl rfl rfl (λh=>by cases h) λp hp O w0 I0 Q hl0 hq=> ?_
 obtain rfl:I0=[]:=aU.1 hl0;obtain⟨a,b⟩:=p;obtain⟨h1,h2⟩:=hp;replace hq:=hq _ rfl;simp only at h1 h2 hq;refine zc.n GBq.h [5,12,13] (.leaf (.loop (lps K75 0).1 (lps K75 0).2 [(5,.ptr 0 0),(12,.agg [.str a,.str b]),(13,.i 0)] [.box [.str #[].toList,.str #[].toList,.str #[].toList,.str #[].toList,.i 0]])) ?_;simp only [Tree.holds,zf];refine zc.loop (ι:={i:Nat // i<=2}) (λi=>SBq a b i.1) (λi=>[(Pst a b i.1).box]) (λi=>2 - i.1) ⟨0,aI _⟩ 0 ?_ ?_ (by kernel_rfl)
 ·exact⟨by simp [SBq],by simp [Pst,Pr.box],by kernel_rfl,aI _⟩
 rintro⟨i,hil⟩
 match i,hil with
 | 0,_=>
  refine zc.n GBq.h [5,12,13] (let v2:List Blk:=[.box [.str [],.str [],.str [],.str [],.i 0]];let v1:List (Nat×AV):=[(5,.ptr 0 0),(12,.agg [.str a,.str b]),(13,.i 1)];.ite true (.side ((0:Int)<=0/\(0:Int)<2/\1<=List.length [AV.str a,AV.str b]) (.ite true (.ex (q15 [.str a]) λn=>.all (λ(r:L8×L8×Int)=>r=if errR n=0 then(numR n,denR n,(0:Int)) else([],[],errR n)) λn=>.side ((0:Int)<=0/\(0:Int)<2) (.side ((0:Int)<=0/\(0:Int)<2) (.S 1 (.leaf (.back 0 v1 [.box [.str n.1,.str [],.str n.2.1,.str [],.i n.2.2]]))))) (.S 1 (.leaf (.back 0 v1 v2))))) (.R [.ptr 0 0] v2)) ?_;simp only [q15,Tree.holds,zf,inR,lo,hi,aD];refine⟨λ_=>⟨by simp,λ_=>⟨λ_=>⟨a,⟨by simp,h1⟩,⟨_,rfl⟩,?_⟩,λh=>(by cases h)⟩⟩,λh=>(by cases h)⟩;intro r hr;refine⟨by decide,λ_=>⟨by decide,λ_=>⟨by decide,λ_=> ?_⟩⟩⟩;rw [aP trivial];refine⟨⟨1,by decide⟩,by decide,by simp [SBq],?_,by kernel_rfl,aI _⟩
  have e:Pst a b 1=⟨r.1,[],r.2.1,[],r.2.2⟩:=by
   rw [hr];by_cases h:errR a=0
   ·simp [Pst,h]
   ·simp [Pst,h]
  show eqH _ [(Pst a b 1).box];rw [e];simp [Pr.box]
 | 1,_=>
  obtain⟨⟨n,m,d,c,e⟩,hp⟩:∃ p,Pst a b 1=p:=⟨_,rfl⟩;simp only [hp];refine zc.n GBq.h [5,12,13] (let v2:List Blk:=[.box [.str n,.str m,.str d,.str c,.i e]];let v1:List (Nat×AV):=[(5,.ptr 0 0),(12,.agg [.str a,.str b]),(13,.i 2)];.ite true (.side ((0:Int)<=1/\(1:Int)<2/\2<=List.length [AV.str a,AV.str b]) (.D (e=0) (.ex (q15 [.str b]) λn_1=>.all (λ(r:L8×L8×Int)=>r=if errR n_1=0 then(numR n_1,denR n_1,(0:Int)) else([],[],errR n_1)) λn_2=>.side ((0:Int)<=1/\(1:Int)<2) (.side ((0:Int)<=1/\(1:Int)<2) (.S 2 (.leaf (.back 0 v1 [.box [.str n,.str n_2.1,.str d,.str n_2.2.1,.i n_2.2.2]]))))) (.S 2 (.leaf (.back 0 v1 v2))))) (.R [.ptr 0 0] v2)) ?_;simp only [q15,Tree.holds,zf,inR,lo,hi,aD];refine⟨λ_=>⟨by simp,λ_=>⟨λh=>⟨b,⟨by simp,h2⟩,⟨_,rfl⟩,?_⟩,λh=>⟨by decide,λ_=> ?_⟩⟩⟩,λh=>(by cases h)⟩
  ·have h:e=0:=by simpa using h
   intro r hr;refine⟨by decide,λ_=>⟨by decide,λ_=>⟨by decide,λ_=> ?_⟩⟩⟩;rw [aP trivial];refine⟨⟨2,by decide⟩,by decide,by simp [SBq],?_,by kernel_rfl,aI _⟩
   have e2:Pst a b 2=⟨n,r.1,d,r.2.1,r.2.2⟩:=by
    rw [hr];by_cases ha:errR a=0
    ·simp only [Pst,ha] at hp;simp at hp;obtain⟨rfl,rfl,rfl,rfl,_⟩:=hp;by_cases hb:errR b=0
     ·simp [Pst,j5,ha,hb]
     ·simp [Pst,j5,ha,hb]
    ·simp only [Pst] at hp;rw [aP ha] at hp;cases hp;exact absurd h ha
   show eqH _ [(Pst a b 2).box];rw [e2];simp [Pr.box]
  ·have h:e≠0:=by simpa using h
   rw [aP trivial];refine⟨⟨2,by decide⟩,by decide,by simp [SBq],?_,by kernel_rfl,aI _⟩
   have e2:Pst a b 2=⟨n,m,d,c,e⟩:=by
    by_cases ha:errR a=0
    ·simp only [Pst,ha] at hp;simp at hp;exact absurd hp.2.2.2.2.symm h
    ·rw [<- hp];simp only [Pst,j5];rw [aP ha,aP ha]
   show eqH _ [(Pst a b 2).box];rw [e2];simp [Pr.box]
 | 2,_=>
  obtain⟨⟨n,m,d,c,e⟩,hp⟩:∃ p,Pst a b 2=p:=⟨_,rfl⟩;simp only [hp];refine zc.n GBq.h [5,12,13] (.ite false (.side ((0:Int)<=2/\(2:Int)<2/\3<=List.length [AV.str a,AV.str b]) .fail) (.R [.ptr 0 0] [.box [.str n,.str m,.str d,.str c,.i e]])) ?_;simp only [Tree.holds,zf,inR,lo,hi,aD];refine⟨λh=>(by cases h),λ_=> ?_⟩;have hp:j5 a b=⟨n,m,d,c,e⟩:=hp;rw [hp] at hq;refine RetR.out1 0 (by show 0<1; decide) hq (λh=>by cases h) ?_ ?_
  ·exact⟨rfl,rfl⟩
  ·exact⟨rfl,rfl,rfl,rfl,⟨rfl,rfl⟩,trivial⟩
end Go.Proofs.Tryz
end
