/- Part 8 of the proof. -/
import Derived.Test.YtpnllbdffdpoaaaGreatDoorSxg
set_option linter.unusedVariables false
set_option linter.unusedSimpArgs false
set_option linter.unusedSectionVars false
section
namespace Go.Nov
open Go.Sx
namespace Tm
def VS:Con:=.mk 1 [] [] [] (.mk 0 [] [] 0 []) 0 [] []
def both(a b:Con):Con:=.mk 3 [] [] [] (.mk 0 [] [] 0 []) 0 [] [a,b]
def xh:Nat->List Con->Con
 | 0,_=>VS
 | n+1,l=>if l.length=0 then VS else if l.length=1 then l.getD 0 Con.nil else both (xh n (l.take ((l.length+1)/2))) (xh n (l.drop ((l.length+1)/2)))
theorem kU:∀ (n m:Nat) (l:List Con),l.length<=n->l.length<=m->xh n l=xh m l
 | 0,0,l,_,_=>rfl
 | 0,m+1,l,h,_=>by
  have:l.length=0:=by omega
  simp [xh,this]
 | n+1,0,l,_,h=>by
  have:l.length=0:=by omega
  simp [xh,this]
 | n+1,m+1,l,h1,h2=>by
  simp only [xh];by_cases h:l.length=0
  ·rw [if_pos h,if_pos h]
  ·rw [if_neg h,if_neg h];by_cases g:l.length=1
   ·rw [if_pos g,if_pos g]
   ·rw [if_neg g,if_neg g,kU n m _ (by rw [List.length_take]; omega) (by rw [List.length_take]; omega),kU n m _ (by rw [List.length_drop]; omega) (by rw [List.length_drop]; omega)]
def whole(l:List Con):Con:=xh l.length l
theorem Zh(l:List Con):whole l=if l.length=0 then VS else if l.length=1 then l.getD 0 Con.nil else both (whole (l.take ((l.length+1)/2))) (whole (l.drop ((l.length+1)/2))):=by
 unfold whole;rw [kU l.length (l.length+1) l (Nat.le_refl _) (Nat.le_succ _)];simp only [xh];by_cases h:l.length=0
 ·rw [if_pos h,if_pos h]
 ·rw [if_neg h,if_neg h];by_cases g:l.length=1
  ·rw [if_pos g,if_pos g]
  ·rw [if_neg g,if_neg g,kU l.length _ _ (by rw [List.length_take]; omega) (Nat.le_refl _),kU l.length _ _ (by rw [List.length_drop]; omega) (Nat.le_refl _)]
theorem Wv(l m:List Con):Con.bigs (l++m)=Con.bigs l+Con.bigs m:=by
 induction l with
 | nil=>simp [Con.bigs]
 | cons c l ih=>simp only [List.cons_append,Con.bigs,ih]; omega
theorem ZW(l m:List Con):Con.zq (l++m)=Con.zq l+Con.zq m:=by
 induction l with
 | nil=>simp [Con.zq]
 | cons c l ih=>simp only [List.cons_append,Con.zq,ih]; omega
theorem xL:∀ (n:Nat) (l:List Con),l.length<=n->1<=l.length->(whole l).big<=Con.bigs l+2*(l.length - 1)/\(whole l).nodes<=Con.zq l+(l.length - 1)
 | 0,l,h,h'=>by omega
 | n+1,l,h,h'=>by
  rw [Zh,if_neg (by omega:¬ l.length=0)];by_cases h1:l.length=1
  ·rw [if_pos h1]
   match l,h1 with
   | [c],_=>simp [Con.bigs,Con.zq]
  ·rw [if_neg h1];obtain⟨a1,a2⟩:=xL n (l.take ((l.length+1)/2)) (by rw [List.length_take]; omega) (by rw [List.length_take]; omega);obtain⟨b1,b2⟩:=xL n (l.drop ((l.length+1)/2)) (by rw [List.length_drop]; omega) (by rw [List.length_drop]; omega);have e1:=Wv (l.take ((l.length+1)/2)) (l.drop ((l.length+1)/2));have e2:=ZW (l.take ((l.length+1)/2)) (l.drop ((l.length+1)/2));rw [List.take_append_drop] at e1 e2;rw [List.length_take] at a1 a2;rw [List.length_drop] at b1 b2;simp only [both,Con.big,Con.bigs,Con.nodes,Con.zq,Ex.size,Ex.zD,Ex.zH,Ex.jn,List.length_nil];omega
theorem ur(l:List Con):(whole l).big<=Con.bigs l+2*l.length+2/\(whole l).nodes<=Con.zq l+l.length+1:=by
 by_cases h:l.length=0
 ·have:l=[]:=List.length_eq_zero_iff.1 h;subst this;decide
 ·have:=xL l.length l (Nat.le_refl _) (by omega);omega
structure Leg where
 e:Int
 acc:List Con
def prod(e:Int)(a b:L8):L8×Int:=if e≠0 then([48],e) else mulR a b
theorem xZ{e:Int}{a b:L8} : (prod e a b).1.length<=2003:=by
 unfold prod;split
 ·simp
 ·exact zjx a b
def legS(d:Deal)(s:Leg)(p:Per):Leg:=
 ⟨(prod (prod s.e p.part d.zh).2 d.zc (prod s.e p.part d.zh).1).2,s.acc++[at_ p.pay (.mk 2 d.long d.short d.ccy (kon (prod (prod s.e p.part d.zh).2 d.zc (prod s.e p.part d.zh).1).1) 0 [] []),at_ p.pay (pay d (fixg d.name p.fix) (prod s.e p.part d.zh).1)]⟩
def legC(d:Deal)(fl:Bool)(s:Leg)(p:Per):Leg:=
 ⟨(prod s.e p.part d.zh).2,s.acc++[at_ p.pay (pay d (over d.zc (fixg d.name p.fix) fl) (prod s.e p.part d.zh).1)]⟩
def badT(l:List Per)(i:Nat):Bool:=(List.range i).any λj=>decide ((l.getD j Per.nil).pay<(l.getD j Per.nil).fix)||(decide (0<j)&&decide ((l.getD j Per.nil).pay<=(l.getD (j - 1) Per.nil).pay))
theorem zfi(l:List Per)(i:Nat):badT l (i+1)=(badT l i||(decide ((l.getD i Per.nil).pay<(l.getD i Per.nil).fix)||(decide (0<i)&&decide ((l.getD i Per.nil).pay<=(l.getD (i - 1) Per.nil).pay)))):=by
 unfold badT;rw [List.range_succ,List.any_append];simp
def kS(l:List Per)(i:Nat):Int:=if i=0 then -9223372036854775808 else(l.getD (i - 1) Per.nil).pay
def perE(d:Deal)(l:List Per):Int:=first (first 0 [d.zc,d.zh]) (l.map Per.part)
def ja(e:Int)(l:List Per)(i:Nat):Int:=if e=0 then(if badT l i=true then 40 else 0) else e
theorem WD(l:List Per)(i:Nat):kS l (i+1)=(l.getD i Per.nil).pay:=by simp [kS]
theorem Jr{e:Int}{l:List Per}{i:Nat}{b:Bool}(hb:b=(decide ((l.getD i Per.nil).pay<(l.getD i Per.nil).fix)||(decide (0<(i:Int))&&decide ((l.getD i Per.nil).pay<=kS l i)))):ja e l (i+1)=if b=true then(if ja e l i=0 then 40 else ja e l i) else ja e l i:=by
 have hs:badT l (i+1)=(badT l i||b):=by
  rw [zfi,hb];congr 2;by_cases h:i=0
  ·simp [h]
  ·have:kS l i=(l.getD (i - 1) Per.nil).pay:=by simp [kS,h]
   rw [this];simp
 unfold ja;rw [hs];by_cases he:e=0
 ·cases badT l i<;>cases b<;>simp [he]
 ·cases b<;>simp [he]
def zN(f:Leg->Per->Leg)(e:Int)(l:List Per)(i:Nat):Leg:=(l.take i).foldl f ⟨e,[]⟩
theorem Jm{f:Leg->Per->Leg}{e:Int}{l:List Per}{i:Nat}(h:i<l.length):zN f e l (i+1)=f (zN f e l i) (l.getD i Per.nil):=by
 have:l.take (i+1)=l.take i++[l.getD i Per.nil]:=by rw [List.take_add_one]; simp [List.getD,h]
 unfold zN;rw [this,List.foldl_append];rfl
end Tm
end Go.Nov
end
section
set_option maxRecDepth 100000
open Go Go.Sx Go.Proofs Go.Nov
namespace Go.Proofs.Tryz
attribute [local simp] eqKV eqA eqA0 eqH eqB eqL eqL0
theorem zer(l:List Con)(k:Nat)(hk:k<=l.length):eqG k 12 (zi (Con.conG l) 0) (Con.conG (l.take k)):=by
 intro j o hj ho;simp [zi,Con.conG,List.getD,List.getElem?_take,hj]
theorem zdf(l:List Con)(k:Nat):eqG (l.length - k) 12 (zi (Con.conG l) k) (Con.conG (l.drop k)):=by
 intro j o hj ho;simp [zi,Con.conG,List.getD,List.getElem?_drop]
theorem Con.yn{x y:Con}{k d:Int}{a b n:L8}{z:Ex}{l:List Int}{c:List AV}(h:LeL c (x.zg++y.zg)):LeA (.sl 2 12 (zi (zj 12 c) 0)) (.sl 2 12 (Con.mk k a b n z d l [x,y]).deep):=by
 refine LeA.sl rfl λj o hj ho=> ?_
 rw [Con.qc (Con.mk k a b n z d l [x,y]) j o (by show j<2; omega) ho];have:=LeL.dAt (j*12+o) h;simp only [zi,zj,Nat.zero_add];rcases(show j=0\/j=1 by omega) with rfl | rfl<;>rcases(show o=0\/o=1\/o=2\/o=3\/o=4\/o=5\/o=6\/o=7\/o=8\/o=9\/o=10\/o=11 by omega) with rfl | rfl | rfl | rfl | rfl | rfl | rfl | rfl | rfl | rfl | rfl | rfl<;>exact this
theorem zo2(x y:Con):LeA (.agg [.int .u8 3,.str [],.str [],.str [],.int .u8 0,.str [],.str [],.i 0,.nils,.i 0,.nils,.sl 2 12 (zi (zj 12 (x.zg++y.zg)) 0)]) (Tm.both x y).conD:=
 LeA.agg ⟨LeA.refl _,LeA.refl _,LeA.refl _,LeA.refl _,LeA.refl _,LeA.refl _,LeA.refl _,LeA.refl _,LeA.nils,LeA.refl _,LeA.nils,Con.yn (LeL.refl _),trivial⟩
theorem zj9:LeA (.agg [.int .u8 1,.str [],.str [],.str [],.int .u8 0,.str [],.str [],.i 0,.nils,.i 0,.nils,.nils]) Tm.VS.conD:=
 LeA.agg ⟨LeA.refl _,LeA.refl _,LeA.refl _,LeA.refl _,LeA.refl _,LeA.refl _,LeA.refl _,LeA.refl _,LeA.nils,LeA.refl _,LeA.nils,LeA.nils,trivial⟩
def zd1(n:Nat):Ctr:=ctrP false (λl:List Con=>[Con.conS l]) (λl=>l.length<n/\l.length<2^40) (λ_ (_:Unit)=>True) (λl _=>((Tm.whole l).conD,[]))
noncomputable def GAlc(n:Nat):Nat->Option Ctr:=λf=>if f=54 then some (zd1 n) else none
theorem zol{n:Nat}(ih:zd Tryz.prog 54 (zd1 n)):∀ g c,GAlc n g=some c->zd Tryz.prog g c:=okIf ih zm
theorem zkk(n:Nat)(ih:zd Tryz.prog 54 (zd1 n)):zd Tryz.prog 54 (zd1 (n+1)):=by
 refine zk (fn:=Tryz.f54) (c:=Tryz.f54.body.getD .skip) rfl rfl rfl λl hp O w0 Q hq=> ?_
 obtain⟨h1,h2⟩:=hp;replace hq:=hq () trivial;rw [Tm.Zh] at hq;refine zb.n (zol ih) [] (let v5:=Int.toNat ((l.length:Int) - Int.tdiv (l.length:Int) (2:Int));let v3:List AV:=[.int .u8 1,.str #[].toList,.str #[].toList,.str #[].toList,.int .u8 0,.str #[].toList,.str #[].toList,.i 0,.nils,.i 0,.nils,.nils];let v2:List AV:=[.int .u8 3,.str #[].toList,.str #[].toList,.str #[].toList,.int .u8 0,.str #[].toList,.str #[].toList,.i 0,.nils,.i 0,.nils,.osl 1 12 0 2];.D ((l.length:Int)=0) (.R [.agg v3] [.box v3]) (.D ((l.length:Int)=1) (.side ((0:Int)<=0/\(0:Int)<l.length) (.R [(Con.conD (l.getD 0 Con.nil))] [.box (Con.zg (l.getD 0 Con.nil))])) (.side ((2:Int)≠0/\inR .i64 (Int.tdiv (l.length:Int) (2:Int))) (.S ((l.length:Int) - Int.tdiv (l.length:Int) (2:Int)) (.side ((0:Int)<=l.length - Int.tdiv (l.length:Int) (2:Int)/\(l.length:Int) - Int.tdiv (l.length:Int) (2:Int)<=l.length - Int.tdiv (l.length:Int) (2:Int)/\(l.length:Int) - Int.tdiv (l.length:Int) (2:Int)<=l.length) (.side ((0:Int)<=l.length - Int.tdiv (l.length:Int) (2:Int)/\(l.length:Int) - Int.tdiv (l.length:Int) (2:Int)<=l.length) (.ex (λ(x:List Con)=>eqL [.sl v5 12 (zi (Con.conG l) 0)] [.sl x.length 12 (Con.conG x)]/\x.length<n/\x.length<1099511627776) λn_1=>let v1:=Tm.whole n_1;.A λn_2=>.ex (λ(x:List Con)=>eqL [.sl (l.length - Int.toNat ((l.length:Int) - Int.tdiv (l.length:Int) (2:Int))) 12 (zi (Con.conG l) v5)] [.sl x.length 12 (Con.conG x)]/\x.length<n/\x.length<1099511627776) λn=>let v4:=Tm.whole n;.A λn_3=>.R [.agg v2] [.box v2,.arr 2 12 (zj 12 [.int .u8 (Con.kind v1),.str (Con.src v1),.str (Con.dst v1),.str (Con.name v1),.int .u8 (Ex.kind (Con.x v1)),.str (Ex.rat (Con.x v1)),.str (Ex.name (Con.x v1)),.i (Ex.date (Con.x v1)),.sl (List.length (Ex.sub (Con.x v1))) 5 (Ex.exG (Ex.sub (Con.x v1))),.i (Con.date v1),.sl (List.length (Con.days v1)) 1 (Con.dayG (Con.days v1)),.sl (List.length (Con.sub v1)) 12 (Con.deep v1),.int .u8 (Con.kind v4),.str (Con.src v4),.str (Con.dst v4),.str (Con.name v4),.int .u8 (Ex.kind (Con.x v4)),.str (Ex.rat (Con.x v4)),.str (Ex.name (Con.x v4)),.i (Ex.date (Con.x v4)),.sl (List.length (Ex.sub (Con.x v4))) 5 (Ex.exG (Ex.sub (Con.x v4))),.i (Con.date v4),.sl (List.length (Con.days v4)) 1 (Con.dayG (Con.days v4)),.sl (List.length (Con.sub v4)) 12 (Con.deep v4)])]))))))) ?_;simp only [Tree.holds,zf];have e0:((l.length:Int)).tdiv 2=((l.length/2:Nat):Int):=rfl;have e1:(l.length:Int) - ((l.length/2:Nat):Int)=(((l.length+1)/2:Nat):Int):=by omega
 simp only [e0,e1,Int.toNat_natCast,inR,lo,hi];obtain⟨k,hk⟩:∃ k,(l.length+1)/2=k:=⟨_,rfl⟩;rw [hk] at hq ⊢;refine⟨λh=> ?_,λh=>⟨λg=> ?_,λg=> ?_⟩⟩
 ·have h:=of_decide_eq_true h;rw [if_pos (by omega)] at hq;exact RetR.le0 hq (λh=>by cases h) zj9
 ·have h:=of_decide_eq_false h;have g:=of_decide_eq_true g;rw [if_neg (by omega),if_pos (by omega)] at hq;exact⟨by omega,λ_=>RetR.le0 hq (λh=>by cases h) (LeA.refl _)⟩
 ·have h:=of_decide_eq_false h;have g:=of_decide_eq_false g;rw [if_neg (by omega),if_neg (by omega)] at hq;have l1:(l.take k).length=k:=by rw [List.length_take]; omega
  have l2:(l.drop k).length=l.length - k:=List.length_drop;refine⟨⟨by omega,by omega⟩,λ_=>⟨by omega,λ_=>⟨by omega,λ_=>⟨by omega,λ_=> ?_⟩⟩⟩⟩;refine⟨l.take k,⟨⟨⟨l1.symm,rfl,zer l k (by omega)⟩,trivial⟩,by omega,by omega⟩,⟨(),trivial⟩,λ_ _=> ?_⟩;refine⟨l.drop k,⟨⟨⟨l2.symm,rfl,zdf l k⟩,trivial⟩,by omega,by omega⟩,⟨(),trivial⟩,λ_ _=> ?_⟩;exact RetR.le0 hq (λh=>by cases h) (zo2 _ _)
def zaa:Ctr:=ctrP false (λl:List Con=>[Con.conS l]) (λl=>l.length<2^40) (λ_ (_:Unit)=>True) (λl _=>((Tm.whole l).conD,[]))
theorem zr4:zd Tryz.prog 54 zaa:=vB List.length zkk
noncomputable def K145:List Go.Sx.Item:=[.code (Tryz.f145.body.getD .skip)]
def zcf:Ctr:=ctr2 true (λx y=>(canon x).length<100000/\(canon y).length<100000) (λx y d=>d=x+y) (λ_ _ d=>(magS d,[]))
def SPl(x y:Nat)(o:List Nat)(c i:Nat):KV:=[(1,magS y),(5,.osl 0 1 0 o.length),(6,.int .u32 (c:Int)),(21,magS x),(22,.i ((canon x).length:Int)),(23,.i (i:Int))]
structure IPl(x y:Nat) where
 o:List Nat
 c:Nat
 i:Nat
 len:o.length=i
 le:i<=(canon x).length
 dg:dig o
 c1:c<=1
 eq:val o+B^i*c=val ((canon x).take i)+val ((canon y).take i)
theorem zqx{x y o c i d c':Nat}{l m:List Nat}(h:o+B^i*c=val (l.take i)+val (m.take i))(he:d+B*c'=l.getD i 0+m.getD i 0+c):o+B^i*d+B^(i+1)*c'=val (l.take (i+1))+val (m.take (i+1)):=by
 rw [zw,zw,Nat.pow_succ];have:=congrArg (B^i * ·) he;simp only [Nat.mul_add] at this;rw [Nat.mul_assoc];omega
theorem RetR.zrr{ctr:Ctr}{Q:AV×Heap->Prop}{h:Heap}{i m n:Nat}{k:IntKind}{l:List Nat}{G:Nat->Nat->AV}(hq:Q (natS k l,[]))(hb:h[i]?=some (.arr m 1 G))(hn:n<=m)(hl:l.length=n)(hG:∀ j,j<n->G j 0 = .int k ((l.getD j 0:Nat):Int)):RetR ctr 0 Q [.osl i 1 0 n] h:=by
 refine RetR.out0 hq (λ_=> ?_) ?_
 ·refine zia hb (by omega) λj o hj ho=> ?_
  have:o=0:=by omega
  subst this;simp only [zi,Nat.zero_add,hG j hj,qC]
 ·have e:exp2 h [] (resV [.osl i 1 0 n])=exp0 h [] (.osl i 1 0 n):=rfl;rw [e,XN hb (by omega),zrn];simp only [eqA2,natS];refine⟨hl.symm,rfl,λj o hj ho=> ?_⟩;have:o=0:=by omega
  subst this;rw [hG j hj]; rfl
theorem YN{O:Nat->Prop}{w0:World}{Q:AV×Heap->Prop}(x y:Nat)(hx:(canon x).length<100000)(hlen:(canon y).length<=(canon x).length)(hq:Q (magS (x+y),[]))(kv:KV)(h:Heap)(hle:LeK 0 Tryz.f145.ntmps kv h (SPl x y [] 0 0) [.arr 0 1 (natG .u32 [])]) :
  zb Tryz.prog Tryz.f145 O 0 w0 [] (λ_ _ _=>False) (RetR zcf 0 Q) (.code (.loop (lps K145 0).1)::(lps K145 0).2) (mk Tryz.f145.ntmps kv h):=by
 refine zb.loop (ι:=IPl x y) (λs=>SPl x y s.o s.c s.i) (λs=>[.arr s.o.length 1 (natG .u32 s.o)]) (λs=>(canon x).length - s.i) ⟨[],0,0,rfl,Nat.zero_le _,by simp [dig],by omega,by simp [val]⟩ 0 hle ?_ (by kernel_rfl);rintro⟨o,c,i,ho,hle,hd,hc,he⟩;subst ho;have hB:B=1000000000:=rfl;refine zb.n G1.h [1,5,6,21,22,23] (let v8:=natG .u32 o;let v7:=inR .i64 (o.length+1);let v4:=o.length+1;let v1:=Int.toNat o.length;let v6:=Int.tdiv ((↑(List.getD (canon x) v1 0):Int)+c) (1000000000:Int);let v5:=zj 1 [.int .u32 (Int.tmod ((↑(List.getD (canon x) v1 0):Int)+c) (1000000000:Int))];let v3:=Int.tdiv ((↑(List.getD (canon x) v1 0):Int)+c+(↑(List.getD (canon y) v1 0):Int)) (1000000000:Int);let v2:=zj 1 [.int .u32 (Int.tmod ((↑(List.getD (canon x) v1 0):Int)+c+(↑(List.getD (canon y) v1 0):Int)) (1000000000:Int))];.D ((o.length:Int)<((canon x).length:Int)) (.side ((0:Int)<=o.length/\(o.length:Int)<((canon x).length:Int)) (.side (inR .u32 ((↑(List.getD (canon x) v1 0):Int)+c)) (.D ((o.length:Int)<((canon y).length:Int)) (.side ((0:Int)<=o.length/\(o.length:Int)<((canon y).length:Int)) (.side (inR .u32 ((↑(List.getD (canon x) v1 0):Int)+c+(↑(List.getD (canon y) v1 0):Int))) (.side ((1000000000:Int)≠0/\inR .u32 v3) (.side ((1000000000:Int)≠0) (.side (0=0/\o.length<=o.length/\v4 *4<=140737488355328) (.side v7 (.leaf (.back 0 [(1,.sl (canon y).length 1 (natG .u32 (canon y))),(5,.osl 0 1 0 v4),(6,.int .u32 v3),(21,.sl (canon x).length 1 (natG .u32 (canon x))),(22,.i (canon x).length),(23,.i (o.length+1))] [.arr v4 1 (appG o.length v8 (zi v2 0)),.arr 1 1 v2])))))))) (.side ((1000000000:Int)≠0/\inR .u32 v6) (.side ((1000000000:Int)≠0) (.side (0=0/\o.length<=o.length/\v4 *4<=140737488355328) (.side v7 (.leaf (.back 0 [(1,.sl (canon y).length 1 (natG .u32 (canon y))),(5,.osl 0 1 0 v4),(6,.int .u32 v6),(21,.sl (canon x).length 1 (natG .u32 (canon x))),(22,.i (canon x).length),(23,.i (o.length+1))] [.arr v4 1 (appG o.length v8 (zi v5 0)),.arr 1 1 v5]))))))))) (.side (0=0/\o.length<=o.length/\v4 *4<=140737488355328) (.ex (λ(u:List Nat)=>u.length=o.length+1/\0+(o.length+1)<=o.length+1/\o.length+1<4611686018427387904/\eqG v4 1 (appG o.length v8 (zi (zj 1 [.int .u32 c]) 0)) (natG .u32 u)/\dig (List.take v4 (List.drop 0 u))) λn=>.all (λ(x:Nat)=>x=val (List.take v4 (List.drop 0 n))) λn=>.R [.osl 0 1 0 (canon n).length] [.arr v4 1 (appG o.length v8 (zi (zj 1 [.int .u32 c]) 0)),.arr 1 1 (zj 1 [.int .u32 c])]))) ?_;simp only [Tree.holds,zf,inR,lo,hi,Int.toNat_natCast,yA];have ha:=zU (zl x) o.length;have hb:=zU (zl y) o.length
 have hnext:∀ d c':Nat,d<B->c'<=1->o.length<(canon x).length->d+B*c'=(canon x).getD o.length 0+(canon y).getD o.length 0+c ->
   ∃ s:IPl x y,s.o=o++[d]/\s.c=c'/\s.i=o.length+1:=λd c' h1 h2 h3 h4=>
  ⟨⟨o++[d],c',o.length+1,by simp,h3,jy.2 ⟨hd,by simp [dig,h1]⟩,h2,by rw [WI]; exact zqx (x:=x) (y:=y) he h4⟩,rfl,rfl,rfl⟩
 have hdiv:∀ v:Nat,(v:Int).tdiv 1000000000=((v/B:Nat):Int)/\(v:Int).tmod 1000000000=((v%B:Nat):Int):=λv=>⟨rfl,rfl⟩
 have hq2:∀ v:Nat,v<2*B->v/B<=1/\v%B<B/\v%B+B*(v/B)=v:=λv hv=>⟨by have:=Nat.div_lt_of_lt_mul (show v<B*2 by omega); omega,Nat.mod_lt _ (by omega),Nat.mod_add_div _ _⟩
 refine⟨λhlt=> ?_,λhge=> ?_⟩
 ·have hlt:o.length<(canon x).length:=by have:=of_decide_eq_true hlt; omega
  refine⟨by omega,λ_=>⟨by omega,λ_=>⟨λhb2=> ?_,λhb2=> ?_⟩⟩⟩
  ·have hb2:o.length<(canon y).length:=by have:=of_decide_eq_true hb2; omega
   refine⟨by omega,λ_=>⟨by omega,λ_=> ?_⟩⟩;obtain⟨v,hv⟩:∃ v,(canon x).getD o.length 0+c+(canon y).getD o.length 0=v:=⟨_,rfl⟩;have ev:(((canon x).getD o.length 0:Nat):Int)+(c:Int)+(((canon y).getD o.length 0:Nat):Int)=(v:Int):=by omega
   rw [ev,(hdiv v).1,(hdiv v).2];obtain⟨g1,g2,g3⟩:=hq2 v (by omega);generalize v/B=q at g1 g3 ⊢;generalize v%B=r at g2 g3 ⊢;refine⟨⟨by decide,by omega,by omega⟩,λ_=>⟨by decide,λ_=>⟨⟨trivial,Nat.le_refl _,by omega⟩,λ_=>⟨by omega,λ_=> ?_⟩⟩⟩⟩;obtain⟨s,h1,h2,h3⟩:=hnext r q g2 g1 hlt (by omega);rw [if_pos trivial];exact⟨s,by show _ - s.i<_; omega,by simp [SPl,h1,h2,h3,magS,natS,za],by rw [h1]; exact vQ rfl,by kernel_rfl,Nat.zero_le _⟩
  ·have hb2:(canon y).length<=o.length:=by have:=of_decide_eq_false hb2; omega
   have hb0:(canon y).getD o.length 0=0:=by simp [List.getD,List.getElem?_eq_none hb2]
   obtain⟨v,hv⟩:∃ v,(canon x).getD o.length 0+c=v:=⟨_,rfl⟩;have ev:(((canon x).getD o.length 0:Nat):Int)+(c:Int)=(v:Int):=by omega
   rw [ev,(hdiv v).1,(hdiv v).2];obtain⟨g1,g2,g3⟩:=hq2 v (by omega);generalize v/B=q at g1 g3 ⊢;generalize v%B=r at g2 g3 ⊢;refine⟨⟨by decide,by omega,by omega⟩,λ_=>⟨by decide,λ_=>⟨⟨trivial,Nat.le_refl _,by omega⟩,λ_=>⟨by omega,λ_=> ?_⟩⟩⟩⟩;obtain⟨s,h1,h2,h3⟩:=hnext r q g2 g1 hlt (by omega);rw [if_pos trivial];exact⟨s,by show _ - s.i<_; omega,by simp [SPl,h1,h2,h3,magS,natS,za],by rw [h1]; exact vQ rfl,by kernel_rfl,Nat.zero_le _⟩
 ·have hge:o.length=(canon x).length:=by have:=of_decide_eq_false hge; omega
  have hv:val (o++[c])=x+y:=by
   rw [WI];rw [hge,List.take_length,List.take_of_length_le hlen,zo,zo] at he;rw [hge]; exact he
  have hdo:dig (o++[c]):=jy.2 ⟨hd,by simp [dig]; omega⟩
  have hpush:eqG (o.length+1) 1 (appG o.length (natG .u32 o) (zi (zj 1 [.int .u32 (c:Int)]) 0)) (natG .u32 (o++[c])):=by
   have:=uS (k:=.u32) (l:=o) (v:=(c:Int)) (by omega);simpa using this
  have hall:List.take (o.length+1) (List.drop 0 (o++[c]))=o++[c]:=by rw [List.drop_zero]; exact List.take_of_length_le (by simp)
  refine⟨⟨trivial,Nat.le_refl _,by omega⟩,λ_=>⟨o++[c],⟨by simp,by omega,by omega,hpush,by rw [hall]; exact hdo⟩,⟨_,rfl⟩,?_⟩⟩;intro X hX;have hX:X=x+y:=by rw [hX,hall,hv]
  subst hX;have htr:qU (o++[c])=canon (x+y):=by rw [zX hdo,hv]
  have htl:(canon (x+y)).length=tlen (o++[c]):=by rw [<- htr,qU,List.length_take]; have:=qw (o++[c]); omega
  rw [htl];have hle2:=qw (o++[c]);have hln:(o++[c]).length=o.length+1:=by simp
  refine RetR.zrr (l:=canon (x+y)) (k:=.u32) hq rfl (by omega) htl λj hj=> ?_
  have:=hpush j 0 (by omega) (by omega);rw [this,<- htr];simp only [natG,qU];rw [zcc hj]
theorem zbn:zd Tryz.prog 145 zcf:=by
 refine Z0 (fn:=Tryz.f145) (c:=Tryz.f145.body.getD .skip) rfl rfl rfl λx y hp O w0 Q hq=> ?_
 replace hq:=hq _ rfl;obtain⟨hx,hy⟩:=hp;refine zb.n G1.h [1,5,6,21,22,23] (let v1:=lps K145 0;.D (((canon x).length:Int)<((canon y).length:Int)) (.S ((canon y).length+1) (.side ((0:Int)<=0/\(0:Int)<=((canon y).length:Int)+(1:Int)/\inR .i64 ((canon y).length+1)/\Int.toNat ((canon y).length+1)*4<=140737488355328) (.leaf (.loop v1.1 v1.2 [(1,.sl (canon x).length 1 (natG .u32 (canon x))),(5,.osl 0 1 0 0),(6,.int .u32 0),(21,.sl (canon y).length 1 (natG .u32 (canon y))),(22,.i (canon y).length),(23,.i 0)] [.arr 0 1 (yl [.int .u32 0])])))) (.S ((canon x).length+1) (.side ((0:Int)<=0/\(0:Int)<=((canon x).length:Int)+(1:Int)/\inR .i64 ((canon x).length+1)/\Int.toNat ((canon x).length+1)*4<=140737488355328) (.leaf (.loop v1.1 v1.2 [(1,.sl (canon y).length 1 (natG .u32 (canon y))),(5,.osl 0 1 0 0),(6,.int .u32 0),(21,.sl (canon x).length 1 (natG .u32 (canon x))),(22,.i (canon x).length),(23,.i 0)] [.arr 0 1 (yl [.int .u32 0])]))))) ?_;simp only [Tree.holds,zf,inR,lo,hi];refine⟨λh=> ?_,λh=> ?_⟩
 ·have h:(canon x).length<(canon y).length:=by have:=of_decide_eq_true h; omega
  refine⟨by omega,λ_=>⟨⟨by omega,by omega,by omega,by omega⟩,λ_=> ?_⟩⟩;rw [Nat.add_comm] at hq;exact YN y x hy (by omega) hq _ _ ⟨by simp [SPl,magS,natS,za],by simp [eqG],by kernel_rfl,Nat.zero_le _⟩
 ·have h:(canon y).length<=(canon x).length:=by have:=of_decide_eq_false h; omega
  refine⟨by omega,λ_=>⟨⟨by omega,by omega,by omega,by omega⟩,λ_=> ?_⟩⟩;exact YN x y hx h hq _ _ ⟨by simp [SPl,magS,natS,za],by simp [eqG],by kernel_rfl,Nat.zero_le _⟩
def zcy:Ctr:=ctrP false (λp:Bool×Nat=>[.bool p.1,magS p.2]) (λ_=>True) (λp r=>r=(p.1&&decide (0<p.2),p.2)) (λ_ (r:Bool×Nat)=>(numV r.1 r.2,[]))
theorem Jb{x:Nat} : decide (0<((canon x).length:Int))=decide (0<x):=by
 by_cases h:x=0
 ·subst h; simp [canon]
 ·have h1:0<x:=Nat.pos_of_ne_zero h;have h2:(canon x).length≠0:=λh2=>h (yK.1 h2)
  rw [decide_eq_true (by omega),decide_eq_true h1]
theorem RetR.numV{ctr:Ctr}{Q:AV×Heap->Prop}{h:Heap}{b:Bool}{x:Nat}(hf:ctr.fresh=false)(hq:Q (numV b x,[])):RetR ctr 0 Q [.agg [.bool b,magS x]] h:=by
 refine RetR.out0 hq (λh=>by rw [hf] at h; cases h) ?_;simp [resV,exp2,exp1,exp0,ren0,frz1,eqA2,eqL1,eqA,eqL0,eqA0,Tryz.numV,magS,natS,za]
theorem zme:zd Tryz.prog 144 zcy:=by
 refine zk (fn:=Tryz.f144) (c:=Tryz.f144.body.getD .skip) rfl rfl rfl λp hp O w0 Q hq=> ?_
 obtain⟨b,x⟩:=p;replace hq:=hq _ rfl;refine zb.n z9 [] (let v1:List AV:=[.bool (bif b then decide ((0:Int)<((canon x).length:Int)) else false),.sl (canon x).length 1 (natG .u32 (canon x))];.R [.agg v1] [.box v1]) ?_;simp only [Tree.holds,zf];rw [Jb];have e:(bif b then decide (0<x) else false)=(b&&decide (0<x)):=by cases b<;>rfl
 rw [e];exact RetR.numV rfl hq
def sumC:Ctr:=ctrP false (λp:(Bool×Nat)×(Bool×Nat)=>[numV p.1.1 p.1.2,numV p.2.1 p.2.2]) (λp=>(canon p.1.2).length<100000/\(canon p.2.2).length<100000)
 (λp r=>r=((sumS p.1.1 p.1.2 p.2.1 p.2.2).1&&decide (0<(sumS p.1.1 p.1.2 p.2.1 p.2.2).2),(sumS p.1.1 p.1.2 p.2.1 p.2.2).2)) (λ_ (r:Bool×Nat)=>(numV r.1 r.2,[]))
noncomputable def GSu:=tb zme (tb zbn (tb uf (tb JU tz)))
abbrev q38(A:List AV)(x:Bool×Nat):Prop:=eqL A [.bool x.1,.sl (canon x.2).length 1 (natG .u32 (canon x.2))]/\True
abbrev q37(A:List AV)(x:Nat×Nat):Prop:=eqL A [.sl (canon x.1).length 1 (natG .u32 (canon x.1)),.sl (canon x.2).length 1 (natG .u32 (canon x.2))]/\List.length (canon x.1)<100000/\List.length (canon x.2)<100000
theorem zrg:zd Tryz.prog 108 sumC:=by
 refine zk (fn:=Tryz.f108) (c:=Tryz.f108.body.getD .skip) rfl rfl rfl λp hp O w0 Q hq=> ?_
 obtain⟨⟨m,x⟩,⟨n,y⟩⟩:=p;obtain⟨h1,h2⟩:=hp;replace hq:=hq _ rfl;simp only at h1 h2 hq;refine zb.n GSu.h [] (let v8:=natG .u32 (canon x);let v7:=natG .u32 (canon y);let v3:List AV:=[.bool n,.sl (canon y).length 1 v7];let v2:List AV:=[.bool m,.sl (canon x).length 1 v8];let v1:=[AV.sl (canon x).length 1 v8,AV.sl (canon y).length 1 v7];.ite (m == n) (.ex (q37 v1) λn_1=>.all (λ(d:Nat)=>d=n_1.1+n_1.2) λn_2=>.ex (q38 [.bool m,.sl (canon n_2).length 1 (natG .u32 (canon n_2))]) λn_3=>.all (λ(r:Bool×Nat)=>r=(n_3.1&&decide (0<n_3.2),n_3.2)) λn_4=>let v4:List AV:=[.bool n_4.1,.sl (canon n_4.2).length 1 (natG .u32 (canon n_4.2))];.R [.agg v4] [.box v2,.box v3,.box v4]) (.ex (q11 v1) λn_1=>.all (λ(r:Int)=>r=cmp3 n_1.1 n_1.2) λn_2=>.D ((0:Int)<=n_2) (.ex (q12 v1) λn_3=>.all (λ(d:Nat)=>d=n_3.1 - n_3.2) λn_4=>.ex (q38 [.bool m,.sl (canon n_4).length 1 (natG .u32 (canon n_4))]) λn_5=>.all (λ(r:Bool×Nat)=>r=(n_5.1&&decide (0<n_5.2),n_5.2)) λn_6=>let v5:List AV:=[.bool n_6.1,.sl (canon n_6.2).length 1 (natG .u32 (canon n_6.2))];.R [.agg v5] [.box v2,.box v3,.box v5]) (.ex (q12 [.sl (canon y).length 1 v7,.sl (canon x).length 1 v8]) λn_3=>.all (λ(d:Nat)=>d=n_3.1 - n_3.2) λn_4=>.ex (q38 [.bool n,.sl (canon n_4).length 1 (natG .u32 (canon n_4))]) λn_5=>.all (λ(r:Bool×Nat)=>r=(n_5.1&&decide (0<n_5.2),n_5.2)) λn_6=>let v6:List AV:=[.bool n_6.1,.sl (canon n_6.2).length 1 (natG .u32 (canon n_6.2))];.R [.agg v6] [.box v2,.box v3,.box v6]))) ?_;simp only [q11,q12,q37,q38,Tree.holds,zf];have eL:∀ a b:Nat,eqL [.sl (canon a).length 1 (natG .u32 (canon a)),.sl (canon b).length 1 (natG .u32 (canon b))] [.sl (canon a).length 1 (natG .u32 (canon a)),.sl (canon b).length 1 (natG .u32 (canon b))]:=λa b=>⟨⟨rfl,rfl,za _ _ _⟩,⟨rfl,rfl,za _ _ _⟩,trivial⟩
 have eK:∀ (b:Bool) (a:Nat),eqL [.bool b,.sl (canon a).length 1 (natG .u32 (canon a))] [.bool b,.sl (canon a).length 1 (natG .u32 (canon a))]:=λb a=>⟨rfl,⟨rfl,rfl,za _ _ _⟩,trivial⟩
 have hcm:∀ v,v=cmp3 x y->(0<=v↔y<=x):=by
  rintro v rfl;unfold cmp3;split
  ·exact⟨λh=>by omega,λh=>by omega⟩
  ·split
   ·exact⟨λh=>by omega,λh=>by omega⟩
   ·exact⟨λh=>by omega,λh=>by omega⟩
 refine⟨λh=> ?_,λh=>⟨(x,y),⟨eL x y,by show(canon x).length<_; omega,by show(canon y).length<_; omega⟩,⟨_,rfl⟩,?_⟩⟩
 ·have h:m=n:=by simpa using h
  refine⟨(x,y),⟨eL x y,h1,h2⟩,⟨_,rfl⟩,?_⟩;rintro _ rfl;refine⟨(m,x+y),⟨eK m _,trivial⟩,⟨_,rfl⟩,?_⟩;rintro _ rfl;have e:sumS m x n y=(m,x+y):=if_pos h;rw [e] at hq;exact RetR.numV rfl hq
 ·have h:¬ m=n:=by simpa using h
  intro v hv;have hv:=hcm v hv;refine⟨λg=> ?_,λg=> ?_⟩
  ·have g:y<=x:=hv.1 (of_decide_eq_true g);refine⟨(x,y),⟨eL x y,by show(canon x).length<_; omega,g⟩,⟨_,rfl⟩,?_⟩;rintro _ rfl;refine⟨(m,x - y),⟨eK m _,trivial⟩,⟨_,rfl⟩,?_⟩;rintro _ rfl;have e:sumS m x n y=(m,x - y):=by rw [sumS,if_neg h,if_pos g]
   rw [e] at hq;exact RetR.numV rfl hq
  ·have g:¬ y<=x:=λh3=>of_decide_eq_false g (hv.2 h3)
   refine⟨(y,x),⟨eL y x,by show(canon y).length<_; omega,by show x<=y; omega⟩,⟨_,rfl⟩,?_⟩;rintro _ rfl;refine⟨(n,y - x),⟨eK n _,trivial⟩,⟨_,rfl⟩,?_⟩;rintro _ rfl;have e:sumS m x n y=(n,y - x):=by rw [sumS,if_neg h,if_neg g]
   rw [e] at hq;exact RetR.numV rfl hq
theorem qf{x n:Nat}(h:x<B^n)(hn:n<100000):(canon x).length<100000:=by have:=zB h; omega
theorem qS{s:L8}(h:errI s=0):numI s<B^112:=jO.2 (uy h)
theorem zb9{x y:Nat}(hx:x<B^112)(hy:y<B^112):x+y<B^113/\x*y<B^224:=by
 constructor
 ·have:B^113=B^112*B:=Nat.pow_succ B 112;have hB:B=1000000000:=rfl;generalize B^112=p at *
  rw [this,hB]; omega
 ·have:B^224=B^112*B^112:=by rw [<- Nat.pow_add]
  rw [this];exact Nat.mul_lt_mul_of_lt_of_lt hx hy
noncomputable def GAd:=tb KC (tb zrg (tb Ww (tb XV (tb uf tz))))
def addC:Ctr:=ctrP true (λp:L8×L8=>[.str p.1,.str p.2]) (λp=>p.1.length<2^62/\p.2.length<2^62) (λp r=>r=addI p.1 p.2) (λ_ r=>(.tup [.str r.1,.i r.2],[]))
def subC:Ctr:=ctrP true (λp:L8×L8=>[.str p.1,.str p.2]) (λp=>p.1.length<2^62/\p.2.length<2^62) (λp r=>r=subI p.1 p.2) (λ_ r=>(.tup [.str r.1,.i r.2],[]))
def mulC:Ctr:=ctrP true (λp:L8×L8=>[.str p.1,.str p.2]) (λp=>p.1.length<2^62/\p.2.length<2^62) (λp r=>r=mulI p.1 p.2) (λ_ r=>(.tup [.str r.1,.i r.2],[]))
def zoo:Ctr:=ctrP true (λp:L8×L8=>[.str p.1,.str p.2]) (λp=>p.1.length<2^62/\p.2.length<2^62) (λp r=>r=VQ p.1 p.2) (λ_ r=>(.tup [.i r.1,.i r.2],[]))
abbrev q39(A:List AV)(x:(Bool×Nat)×Bool×Nat):Prop:=eqL A [.agg [.bool x.1.1,.sl (canon x.1.2).length 1 (natG .u32 (canon x.1.2))],.agg [.bool x.2.1,.sl (canon x.2.2).length 1 (natG .u32 (canon x.2.2))]]/\List.length (canon x.1.2)<100000/\List.length (canon x.2.2)<100000
theorem zqu:zd Tryz.prog 88 addC:=by
 refine zk (fn:=Tryz.f88) (c:=Tryz.f88.body.getD .skip) rfl rfl rfl λp hp O w0 Q hq=> ?_
 obtain⟨s,t⟩:=p;obtain⟨hs,ht⟩:=hp;replace hq:=hq _ rfl;simp only at hs ht hq;refine zb.n GAd.h [] (.ex (q17 [.str s,.str t]) λn=>.all (λ(r:Int×(Bool×Nat)×Bool×Nat)=>r=if zz n.1 n.2=0 then((0:Int),(negI n.1,numI n.1),negI n.2,numI n.2) else(zz n.1 n.2,(false,0),false,0)) λn=>let v4:=canon n.2.2.2;let v3:=canon n.2.1.2;let v1:List Blk:=[.box [.bool n.2.1.1,.sl v3.length 1 (natG .u32 v3)],.box [.bool n.2.2.1,.sl v4.length 1 (natG .u32 v4)]];.N (n.1=0) (.R [.str #[].toList,.i n.1] v1) (.ex (q39 [.agg [.bool n.2.1.1,.sl v3.length 1 (natG .u32 v3)],.agg [.bool n.2.2.1,.sl v4.length 1 (natG .u32 v4)]]) λn_1=>let v2:=sumS n_1.1.1 n_1.1.2 n_1.2.1 n_1.2.2;.all (λ(r:Bool×Nat)=>r=(Prod.fst v2 &&decide (0<Prod.snd v2),Prod.snd v2)) λn_2=>.ex (q19 [.agg [.bool n_2.1,.sl (canon n_2.2).length 1 (natG .u32 (canon n_2.2))]]) λn_3=>.all (λ(r:L8×Int)=>r=wr n_3.1 n_3.2) λn_4=>.R [.str n_4.1,.i n_4.2] v1)) ?_;simp only [q17,q19,q39,Tree.holds,zf];refine⟨(s,t),⟨by simp,by omega,by omega⟩,⟨_,rfl⟩,?_⟩;rintro _ rfl;simp only;by_cases he:zz s t=0
 ·obtain⟨e1,e2⟩:=zu.1 he;obtain⟨b1,b2⟩:=zb9 (qS e1) (qS e2);have c1:=qf (qS e1) (by decide);have c2:=qf (qS e2) (by decide);simp only [if_pos he];refine⟨λh=>(by simp at h),λ_=> ?_⟩;refine⟨((negI s,numI s),(negI t,numI t)),⟨⟨⟨rfl,⟨rfl,rfl,za _ _ _⟩,trivial⟩,⟨rfl,⟨rfl,rfl,za _ _ _⟩,trivial⟩,trivial⟩,c1,c2⟩,⟨_,rfl⟩,?_⟩;rintro _ rfl;refine⟨((sumS (negI s) (numI s) (negI t) (numI t)).1&&decide (0<(sumS (negI s) (numI s) (negI t) (numI t)).2),(sumS (negI s) (numI s) (negI t) (numI t)).2),⟨⟨⟨rfl,⟨rfl,rfl,za _ _ _⟩,trivial⟩,trivial⟩,?_⟩,⟨_,rfl⟩,?_⟩
  ·have:=qf (Nat.lt_of_le_of_lt (zbg (negI s) (numI s) (negI t) (numI t)) b1) (by decide);show(canon (sumS (negI s) (numI s) (negI t) (numI t)).2).length<1000000;omega
  rintro _ rfl;rw [zbm];have e:addI s t=wr (sumS (negI s) (numI s) (negI t) (numI t)).1 (sumS (negI s) (numI s) (negI t) (numI t)).2:=if_pos he;rw [e] at hq;exact RetR.scal hq rfl (by simp [resV])
 ·simp only [if_neg he];refine⟨λ_=> ?_,λh=>(by simp [he] at h)⟩;have e:addI s t=([],zz s t):=if_neg he;rw [e] at hq;exact RetR.scal hq rfl (by simp [resV])
theorem zq2:zd Tryz.prog 79 subC:=by
 refine zk (fn:=Tryz.f79) (c:=Tryz.f79.body.getD .skip) rfl rfl rfl λp hp O w0 Q hq=> ?_
 obtain⟨s,t⟩:=p;obtain⟨hs,ht⟩:=hp;replace hq:=hq _ rfl;simp only at hs ht hq;refine zb.n GAd.h [] (.ex (q17 [.str s,.str t]) λn=>.all (λ(r:Int×(Bool×Nat)×Bool×Nat)=>r=if zz n.1 n.2=0 then((0:Int),(negI n.1,numI n.1),negI n.2,numI n.2) else(zz n.1 n.2,(false,0),false,0)) λn=>let v5:=canon n.2.1.2;let v4:=canon n.2.2.2;let v3:List AV:=[.bool n.2.1.1,.sl v5.length 1 (natG .u32 v5)];let v1:=bif !Prod.fst n.2.2 then decide ((0:Int)<((canon n.2.2.2).length:Int)) else false;.N (n.1=0) (.R [.str #[].toList,.i n.1] [.box v3,.box [.bool n.2.2.1,.sl v4.length 1 (natG .u32 v4)]]) (.ex (q39 [.agg [.bool n.2.1.1,.sl v5.length 1 (natG .u32 v5)],.agg [.bool v1,.sl v4.length 1 (natG .u32 v4)]]) λn_1=>let v2:=sumS n_1.1.1 n_1.1.2 n_1.2.1 n_1.2.2;.all (λ(r:Bool×Nat)=>r=(Prod.fst v2 &&decide (0<Prod.snd v2),Prod.snd v2)) λn_2=>.ex (q19 [.agg [.bool n_2.1,.sl (canon n_2.2).length 1 (natG .u32 (canon n_2.2))]]) λn_3=>.all (λ(r:L8×Int)=>r=wr n_3.1 n_3.2) λn_4=>.R [.str n_4.1,.i n_4.2] [.box v3,.box [.bool v1,.sl v4.length 1 (natG .u32 v4)]])) ?_;simp only [q17,q19,q39,Tree.holds,zf];refine⟨(s,t),⟨by simp,by omega,by omega⟩,⟨_,rfl⟩,?_⟩;rintro _ rfl;simp only;by_cases he:zz s t=0
 ·obtain⟨e1,e2⟩:=zu.1 he;obtain⟨b1,b2⟩:=zb9 (qS e1) (qS e2);have c1:=qf (qS e1) (by decide);have c2:=qf (qS e2) (by decide);simp only [if_pos he];refine⟨λh=>(by simp at h),λ_=> ?_⟩;have eN:(bif !negI t then decide (0<((canon (numI t)).length:Int)) else false)=(!negI t&&decide (0<numI t)):=by rw [Jb]; cases negI t<;>rfl
  rw [eN];refine⟨((negI s,numI s),(!negI t&&decide (0<numI t),numI t)),⟨⟨⟨rfl,⟨rfl,rfl,za _ _ _⟩,trivial⟩,⟨rfl,⟨rfl,rfl,za _ _ _⟩,trivial⟩,trivial⟩,c1,c2⟩,⟨_,rfl⟩,?_⟩;rintro _ rfl;simp only [ze2];refine⟨((sumS (negI s) (numI s) (!negI t) (numI t)).1&&decide (0<(sumS (negI s) (numI s) (!negI t) (numI t)).2),(sumS (negI s) (numI s) (!negI t) (numI t)).2),⟨⟨⟨rfl,⟨rfl,rfl,za _ _ _⟩,trivial⟩,trivial⟩,?_⟩,⟨_,rfl⟩,?_⟩
  ·have:=qf (Nat.lt_of_le_of_lt (zbg (negI s) (numI s) (!negI t) (numI t)) b1) (by decide);show(canon (sumS (negI s) (numI s) (!negI t) (numI t)).2).length<1000000;omega
  rintro _ rfl;rw [zbm];have e:subI s t=wr (sumS (negI s) (numI s) (!negI t) (numI t)).1 (sumS (negI s) (numI s) (!negI t) (numI t)).2:=if_pos he;rw [e] at hq;exact RetR.scal hq rfl (by simp [resV])
 ·simp only [if_neg he];refine⟨λ_=> ?_,λh=>(by simp [he] at h)⟩;have e:subI s t=([],zz s t):=if_neg he;rw [e] at hq;exact RetR.scal hq rfl (by simp [resV])
theorem zqd:zd Tryz.prog 77 mulC:=by
 refine zk (fn:=Tryz.f77) (c:=Tryz.f77.body.getD .skip) rfl rfl rfl λp hp O w0 Q hq=> ?_
 obtain⟨s,t⟩:=p;obtain⟨hs,ht⟩:=hp;replace hq:=hq _ rfl;simp only at hs ht hq;refine zb.n GAd.h [] (.ex (q17 [.str s,.str t]) λn=>.all (λ(r:Int×(Bool×Nat)×Bool×Nat)=>r=if zz n.1 n.2=0 then((0:Int),(negI n.1,numI n.1),negI n.2,numI n.2) else(zz n.1 n.2,(false,0),false,0)) λn=>let v5:=canon n.2.1.2;let v4:=canon n.2.2.2;let v3:List AV:=[.bool n.2.2.1,.sl v4.length 1 (natG .u32 v4)];let v2:List AV:=[.bool n.2.1.1,.sl v5.length 1 (natG .u32 v5)];.N (n.1=0) (.R [.str #[].toList,.i n.1] [.box v2,.box v3]) (.ex (q11 [.sl v5.length 1 (natG .u32 v5),.sl v4.length 1 (natG .u32 v4)]) λn_1=>let v1:=List.length (canon n_1.1)+List.length (canon n_1.2);.all (λ(p:Nat)=>p=n_1.1*n_1.2) λn_2=>.ex (q19 [.agg [.bool !Prod.fst n.2.1 == n.2.2.1,.sl (canon n_2).length 1 (zi (natG .u32 (padN v1 n_2)) 0)]]) λn_3=>.all (λ(r:L8×Int)=>r=wr n_3.1 n_3.2) λn_4=>.R [.str n_4.1,.i n_4.2] [.box v2,.box v3,.arr v1 1 (natG .u32 (padN v1 n_2))])) ?_;simp only [q11,q17,q19,Tree.holds,zf];refine⟨(s,t),⟨by simp,by omega,by omega⟩,⟨_,rfl⟩,?_⟩;rintro _ rfl;simp only;by_cases he:zz s t=0
 ·obtain⟨e1,e2⟩:=zu.1 he;obtain⟨b1,b2⟩:=zb9 (qS e1) (qS e2);have c1:=qf (qS e1) (by decide);have c2:=qf (qS e2) (by decide);simp only [if_pos he];refine⟨λh=>(by simp at h),λ_=> ?_⟩;refine⟨(numI s,numI t),⟨⟨⟨rfl,rfl,za _ _ _⟩,⟨rfl,rfl,za _ _ _⟩,trivial⟩,by show(canon (numI s)).length<1000000; omega,by show(canon (numI t)).length<1000000; omega⟩,⟨_,rfl⟩,?_⟩;rintro _ rfl;refine⟨(negI s != negI t,numI s*numI t),⟨⟨⟨rfl,⟨rfl,rfl,λj o hj ho=>by simp only [zi,natG,Nat.zero_add,padN,uz hj]⟩,trivial⟩,trivial⟩,?_⟩,⟨_,rfl⟩,?_⟩
  ·have:=qf b2 (by decide);show(canon (numI s*numI t)).length<1000000;omega
  rintro _ rfl;have e:mulI s t=wr (negI s != negI t) (numI s*numI t):=if_pos he;rw [e] at hq;exact RetR.scal hq rfl (by simp [resV])
 ·simp only [if_neg he];refine⟨λ_=> ?_,λh=>(by simp [he] at h)⟩;have e:mulI s t=([],zz s t):=if_neg he;rw [e] at hq;exact RetR.scal hq rfl (by simp [resV])
theorem zo6:zd Tryz.prog 80 zoo:=by
 refine zk (fn:=Tryz.f80) (c:=Tryz.f80.body.getD .skip) rfl rfl rfl λp hp O w0 Q hq=> ?_
 obtain⟨s,t⟩:=p;obtain⟨hs,ht⟩:=hp;replace hq:=hq _ rfl;simp only at hs ht hq;refine zb.n GAd.h [] (.ex (q17 [.str s,.str t]) λn=>.all (λ(r:Int×(Bool×Nat)×Bool×Nat)=>r=if zz n.1 n.2=0 then((0:Int),(negI n.1,numI n.1),negI n.2,numI n.2) else(zz n.1 n.2,(false,0),false,0)) λn=>let v3:=canon n.2.2.2;let v2:=canon n.2.1.2;let v1:List Blk:=[.box [.bool n.2.1.1,.sl v2.length 1 (natG .u32 v2)],.box [.bool n.2.2.1,.sl v3.length 1 (natG .u32 v3)]];.N (n.1=0) (.R [.i 0,.i n.1] v1) (.ite (bif n.2.1.1 then !Prod.fst n.2.2 else false) (.R [.i (-1:Int),.i 0] v1) (.ite (bif n.2.2.1 then !Prod.fst n.2.1 else false) (.R [.i 1,.i 0] v1) (.ite n.2.1.1 (.ex (q11 [.sl v3.length 1 (natG .u32 v3),.sl v2.length 1 (natG .u32 v2)]) λn_1=>.all (λ(r:Int)=>r=cmp3 n_1.1 n_1.2) λn_2=>.R [.i n_2,.i 0] v1) (.ex (q11 [.sl v2.length 1 (natG .u32 v2),.sl v3.length 1 (natG .u32 v3)]) λn_1=>.all (λ(r:Int)=>r=cmp3 n_1.1 n_1.2) λn_2=>.R [.i n_2,.i 0] v1))))) ?_;simp only [q11,q17,Tree.holds,zf];refine⟨(s,t),⟨by simp,by omega,by omega⟩,⟨_,rfl⟩,?_⟩;rintro _ rfl;simp only;by_cases he:zz s t=0
 ·obtain⟨e1,e2⟩:=zu.1 he;obtain⟨b1,b2⟩:=zb9 (qS e1) (qS e2);have c1:=qf (qS e1) (by decide);have c2:=qf (qS e2) (by decide);simp only [if_pos he];refine⟨λh=>(by simp at h),λ_=> ?_⟩;have e:VQ s t=(cmpZ (negI s) (numI s) (negI t) (numI t),0):=if_pos he;rw [e] at hq;have ec:∀ a b:Nat,cmp3 a b=cmpN a b:=λ_ _=>rfl
  simp only [cmpZ] at hq;have f1:fits (numI s):=by show(canon (numI s)).length<1000000; omega
  have f2:fits (numI t):=by show(canon (numI t)).length<1000000; omega
  refine⟨λh=> ?_,λh1=>⟨λh=> ?_,λh2=>⟨λh=>⟨(numI t,numI s),⟨⟨⟨rfl,rfl,za _ _ _⟩,⟨rfl,rfl,za _ _ _⟩,trivial⟩,f2,f1⟩,⟨_,rfl⟩,?_⟩,λh=>⟨(numI s,numI t),⟨⟨⟨rfl,rfl,za _ _ _⟩,⟨rfl,rfl,za _ _ _⟩,trivial⟩,f1,f2⟩,⟨_,rfl⟩,?_⟩⟩⟩⟩
  ·cases hm:negI s<;>cases hn:negI t<;>rw [hm,hn] at h hq<;>first | (cases h; done) | exact RetR.scal hq rfl (by simp [resV])
  ·cases hm:negI s<;>cases hn:negI t<;>rw [hm,hn] at h h1 hq<;>first | (cases h; done) | (cases h1; done) | exact RetR.scal hq rfl (by simp [resV])
  ·rintro _ rfl;rw [ec];cases hm:negI s<;>cases hn:negI t<;>rw [hm,hn] at h1 h2 hq<;>rw [hm] at h<;>first | (cases h; done) | (cases h1; done) | (cases h2; done) | exact RetR.scal hq rfl (by simp [resV])
  ·rintro _ rfl;rw [ec];cases hm:negI s<;>cases hn:negI t<;>rw [hm,hn] at h1 h2 hq<;>rw [hm] at h<;>first | (cases h; done) | (cases h1; done) | (cases h2; done) | exact RetR.scal hq rfl (by simp [resV])
 ·simp only [if_neg he];refine⟨λ_=> ?_,λh=>(by simp [he] at h)⟩;have e:VQ s t=(0,zz s t):=if_neg he;rw [e] at hq;exact RetR.scal hq rfl (by simp [resV])
def dmC:Ctr:=ctrP true (λp:L8×L8=>[.str p.1,.str p.2]) (λp=>p.1.length<2^62/\p.2.length<2^62) (λp r=>r=dmI p.1 p.2) (λ_ r=>(.tup [.str r.1,.str r.2.1,.i r.2.2],[]))
noncomputable def GDm:=tb KC (tb V2 (tb zbn (tb JU (tb Ww tz))))
theorem zeq:zd Tryz.prog 143 dmC:=by
 refine zk (fn:=Tryz.f143) (c:=Tryz.f143.body.getD .skip) rfl rfl rfl λp hp O w0 Q hq=> ?_
 obtain⟨s,t⟩:=p;obtain⟨hs,ht⟩:=hp;replace hq:=hq _ rfl;simp only at hs ht hq;refine zb.n GDm.h [] (.ex (q17 [.str s,.str t]) λn=>.all (λ(r:Int×(Bool×Nat)×Bool×Nat)=>r=if zz n.1 n.2=0 then((0:Int),(negI n.1,numI n.1),negI n.2,numI n.2) else(zz n.1 n.2,(false,0),false,0)) λn=>let v5:=canon n.2.1.2;let v4:List AV:=[.bool n.2.1.1,.sl v5.length 1 (natG .u32 v5)];let v3:=canon n.2.2.2;let v6:List AV:=[.bool n.2.2.1,.sl v3.length 1 (natG .u32 v3)];let v2:List Blk:=[.box v4,.box v6,.arr 1 1 (zj 1 [.int .u32 1])];let v1:List Blk:=[.box v4,.box v6];.N (n.1=0) (.R [.str #[].toList,.str #[].toList,.i n.1] v1) (.D (((canon n.2.2.2).length:Int)=0) (.R [.str #[].toList,.str #[].toList,.i 16] v1) (.ex (q18 [.sl v5.length 1 (natG .u32 v5),.sl v3.length 1 (natG .u32 v3)]) λn_1=>.all (λ(r:Nat×Nat)=>r=(n_1.1/n_1.2,n_1.1%n_1.2)) λn_2=>let v8:=canon n_2.2;let v7:=canon n_2.1;.ite (bif n.2.1.1 then decide ((0:Int)<((canon n_2.2).length:Int)) else false) (.ex (q37 [.sl v7.length 1 (natG .u32 v7),.sl 1 1 (zi (zj 1 [.int .u32 1]) 0)]) λn_3=>.all (λ(d:Nat)=>d=n_3.1+n_3.2) λn_4=>.ex (q12 [.sl v3.length 1 (natG .u32 v3),.sl v8.length 1 (natG .u32 v8)]) λn_5=>.all (λ(d:Nat)=>d=n_5.1 - n_5.2) λn_6=>.ex (q19 [.agg [.bool !Prod.fst n.2.1 == n.2.2.1,.sl (canon n_4).length 1 (natG .u32 (canon n_4))]]) λn_7=>.all (λ(r:L8×Int)=>r=wr n_7.1 n_7.2) λn_8=>.N (n_8.2=0) (.R [.str #[].toList,.str #[].toList,.i n_8.2] v2) (.ex (q19 [.agg [.bool false,.sl (canon n_6).length 1 (natG .u32 (canon n_6))]]) λn_9=>.all (λ(r:L8×Int)=>r=wr n_9.1 n_9.2) λn_10=>.R [.str n_8.1,.str n_10.1,.i 0] v2)) (.ex (q19 [.agg [.bool !Prod.fst n.2.1 == n.2.2.1,.sl v7.length 1 (natG .u32 v7)]]) λn_3=>.all (λ(r:L8×Int)=>r=wr n_3.1 n_3.2) λn_4=>.N (n_4.2=0) (.R [.str #[].toList,.str #[].toList,.i n_4.2] v1) (.ex (q19 [.agg [.bool false,.sl v8.length 1 (natG .u32 v8)]]) λn_5=>.all (λ(r:L8×Int)=>r=wr n_5.1 n_5.2) λn_6=>.R [.str n_4.1,.str n_6.1,.i 0] v1))))) ?_;simp only [q12,q17,q18,q19,q37,Tree.holds,zf];refine⟨(s,t),⟨by simp,by omega,by omega⟩,⟨_,rfl⟩,?_⟩;rintro _ rfl;simp only;by_cases he:zz s t=0
 ·obtain⟨e1,e2⟩:=zu.1 he;have c1:=qf (qS e1) (by decide);have c2:=qf (qS e2) (by decide);simp only [if_pos he];refine⟨λh=>(by simp at h),λ_=> ?_⟩;refine⟨λh0=> ?_,λh0=> ?_⟩
  ·have h0:numI t=0:=yK.1 (by have:=of_decide_eq_true h0; omega);have e:dmI s t=([],[],16):=by rw [dmI,if_neg (by rw [he]; decide),if_pos h0]
   rw [e] at hq;exact RetR.scal hq rfl (by simp [resV])
  have h0:numI t≠0:=λh=>of_decide_eq_false h0 (by rw [yK.2 h]; rfl)
  have e:dmI s t=((wr (negI s != negI t) (dmQ s t)).1,(wr false (dmM s t)).1,0):=by rw [dmI,if_neg (by rw [he]; decide),if_neg h0]
  rw [e] at hq;have rq:=zi3 e1 h0;have rm:=zkd (s:=s) e2 h0;have eL:∀ a b:Nat,eqL [.sl (canon a).length 1 (natG .u32 (canon a)),.sl (canon b).length 1 (natG .u32 (canon b))] [.sl (canon a).length 1 (natG .u32 (canon a)),.sl (canon b).length 1 (natG .u32 (canon b))]:=λa b=>⟨⟨rfl,rfl,za _ _ _⟩,⟨rfl,rfl,za _ _ _⟩,trivial⟩
  have eV:∀ (b:Bool) (a:Nat),eqL [.agg [.bool b,.sl (canon a).length 1 (natG .u32 (canon a))]] [.agg [.bool b,.sl (canon a).length 1 (natG .u32 (canon a))]]:=λb a=>⟨⟨rfl,⟨rfl,rfl,za _ _ _⟩,trivial⟩,trivial⟩
  have big:∀ {a:Nat},room a->(canon a).length<1000000:=λ{a} h=>by
   obtain⟨h3,h4,_⟩:=Qw (kE (neg:=false) h);have:=qf (qS h3) (by decide);rw [h4] at this; omega
  refine⟨(numI s,numI t),⟨eL _ _,c1,c2,Nat.pos_of_ne_zero h0⟩,⟨_,rfl⟩,?_⟩;rintro _ rfl;simp only;rw [Jb];have hmod:=Nat.mod_lt (numI s) (Nat.pos_of_ne_zero h0);refine⟨λhc=> ?_,λhc=> ?_⟩
  ·have hc:negI s=true/\0<numI s%numI t:=by
    cases hn:negI s with
    | false=>rw [hn] at hc; cases hc
    | true=>rw [hn] at hc; exact⟨rfl,of_decide_eq_true hc⟩
   have eQ:dmQ s t=numI s/numI t+1:=if_pos hc;have eM:dmM s t=numI t - numI s%numI t:=if_pos hc;rw [eQ,eM] at hq;rw [eQ] at rq;rw [eM] at rm
   have hone:canon 1=[1]:=by
    rw [jf (by decide)];exact congrArg (1 :: ·) zR
   have rdiv:=room_le (Nat.div_le_self (numI s) (numI t)) (jG e1)
   have hdl:(canon (numI s/numI t)).length<100000:=by
    have:=qf (Nat.lt_of_le_of_lt (Nat.div_le_self (numI s) (numI t)) (qS e1)) (by decide);exact this
   refine⟨(numI s/numI t,1),⟨⟨⟨rfl,rfl,za _ _ _⟩,⟨by rw [hone]; rfl,rfl,?_⟩,trivial⟩,hdl,by show(canon 1).length<100000; rw [hone]; decide⟩,⟨_,rfl⟩,?_⟩
   ·intro j o hj ho;have:j=0:=by omega
    subst this;have:o=0:=by omega
    subst this;show AV.int .u32 1 = .int .u32 (((canon 1).getD 0 0:Nat):Int);rw [hone]; rfl
   rintro _ rfl;refine⟨(numI t,numI s%numI t),⟨eL _ _,by show(canon (numI t)).length<1000000; omega,by show numI s%numI t<=numI t; omega⟩,⟨_,rfl⟩,?_⟩;rintro _ rfl;refine⟨(negI s != negI t,numI s/numI t+1),⟨eV _ _,big rq⟩,⟨_,rfl⟩,?_⟩;rintro _ rfl;have hz:=kE (neg:=(negI s != negI t)) rq;refine⟨λh=>by simp [hz] at h,λ_=>⟨(false,numI t - numI s%numI t),⟨eV _ _,big rm⟩,⟨_,rfl⟩,?_⟩⟩;rintro _ rfl;exact RetR.scal hq rfl (by simp [resV])
  ·have hc:¬ (negI s=true/\0<numI s%numI t):=by
    rintro⟨g1,g2⟩;rw [g1,decide_eq_true g2] at hc;cases hc
   have eQ:dmQ s t=numI s/numI t:=if_neg hc;have eM:dmM s t=numI s%numI t:=if_neg hc;rw [eQ,eM] at hq;rw [eQ] at rq;rw [eM] at rm;refine⟨(negI s != negI t,numI s/numI t),⟨eV _ _,big rq⟩,⟨_,rfl⟩,?_⟩;rintro _ rfl;have hz:=kE (neg:=(negI s != negI t)) rq;refine⟨λh=>by simp [hz] at h,λ_=>⟨(false,numI s%numI t),⟨eV _ _,big rm⟩,⟨_,rfl⟩,?_⟩⟩;rintro _ rfl;exact RetR.scal hq rfl (by simp [resV])
 ·simp only [if_neg he];refine⟨λ_=> ?_,λh=>(by simp [he] at h)⟩;have e:dmI s t=([],[],zz s t):=if_pos he;rw [e] at hq;exact RetR.scal hq rfl (by simp [resV])
def zgr:Ctr:=ctrP true (λs:L8=>[.str s]) (λs=>s.length<2^62) (λs r=>r=if errR s=0 then(numR s,denR s,0) else([],[],errR s)) (λ_ (r:L8×L8×Int)=>(.tup [.str r.1,.str r.2.1,.i r.2.2],[]))
noncomputable def GPa:=tb kX (tb XU tz)
theorem zj8:zd Tryz.prog 102 zgr:=by
 refine zk (fn:=Tryz.f102) (c:=Tryz.f102.body.getD .skip) rfl rfl rfl λs hs O w0 Q hq=> ?_
 replace hq:=hq _ rfl;refine zb.n GPa.h [] (.ex (q15 [.str s]) λn=>.all (λ(r:Int)=>r=errR n) λn=>.N (n=0) (.R [.str #[].toList,.str #[].toList,.i n] []) (.ex (q15 [.str s]) λn=>.all (λ(r:L8×L8×Bool)=>r=cutR n) λn=>.ite (!Prod.snd n.2) (.R [.str n.1,.str #[(49:UInt8)].toList,.i 0] []) (.R [.str n.1,.str n.2.1,.i 0] []))) ?_;simp only [q15,Tree.holds,zf];refine⟨s,⟨by simp,hs⟩,⟨_,rfl⟩,?_⟩;rintro _ rfl;refine⟨λh=> ?_,λh=>⟨s,⟨by simp,hs⟩,⟨_,rfl⟩,?_⟩⟩
 ·have h:errR s≠0:=by simpa using h
  rw [if_neg h] at hq;exact RetR.scal hq rfl (by simp [resV])
 ·have h:errR s=0:=by simpa using h
  rw [if_pos h] at hq;rintro _ rfl;refine⟨λg=> ?_,λg=> ?_⟩
  ·have e:denR s=[49]:=by unfold denR; rw [if_neg (by simpa using g)]
   rw [e] at hq;exact RetR.scal hq rfl (by simp [resV,numR])
  ·have e:denR s=(cutR s).2.1:=by unfold denR; rw [if_pos (by simpa using g)]
   rw [e] at hq;exact RetR.scal hq rfl (by simp [resV,numR])
def zcg:Ctr:=ctrP true (λp:L8×L8=>[.str p.1,.str p.2]) (λp=>p.1.length<2^62/\p.2.length<2^62) (λp r=>r=wi p.1 p.2) (λ_ r=>(.tup [.str r.1,.i r.2],[]))
noncomputable def GMk:=tb zik (tb zeq tz)
theorem zlv:zd Tryz.prog 107 zcg:=by
 refine zk (fn:=Tryz.f107) (c:=Tryz.f107.body.getD .skip) rfl rfl rfl λp hp O w0 Q hq=> ?_
 obtain⟨s,t⟩:=p;obtain⟨hs,ht⟩:=hp;replace hq:=hq _ rfl;simp only at hs ht hq;refine zb.n GMk.h [] (.ex (q17 [.str s,.str t]) λn=>.all (λ(r:L8×Int)=>r=gcdR n.1 n.2) λn=>.N (n.2=0) (.R [.str #[].toList,.i n.2] []) (.D (t=#[(48:UInt8)].toList) (.R [.str #[].toList,.i 16] []) (.side ((0:Int)<=0/\(0:Int)<t.length) (.D ((↑(UInt8.toNat (t.getD 0 (0:UInt8))):Int)=45) (.side (1+n.1.length<=9223372036854775807) (.ex (q17 [.str s,.str (#[(45:UInt8)].toList++n.1)]) λn_1=>.all (λ(r:L8×L8×Int)=>r=dmI n_1.1 n_1.2) λn_2=>.ex (q17 [.str t,.str (#[(45:UInt8)].toList++n.1)]) λn=>.all (λ(r:L8×L8×Int)=>r=dmI n.1 n.2) λn=>.D (n.1=#[(49:UInt8)].toList) (.R [.str n_2.1,.i 0] []) (.side (n_2.1.length+1<=9223372036854775807) (.side (List.length (n_2.1++#[(47:UInt8)].toList)+n.1.length<=9223372036854775807) (.R [.str (n_2.1++#[(47:UInt8)].toList++n.1),.i 0] []))))) (.ex (q17 [.str s,.str n.1]) λn_1=>.all (λ(r:L8×L8×Int)=>r=dmI n_1.1 n_1.2) λn_2=>.ex (q17 [.str t,.str n.1]) λn=>.all (λ(r:L8×L8×Int)=>r=dmI n.1 n.2) λn=>.D (n.1=#[(49:UInt8)].toList) (.R [.str n_2.1,.i 0] []) (.side (n_2.1.length+1<=9223372036854775807) (.side (List.length (n_2.1++#[(47:UInt8)].toList)+n.1.length<=9223372036854775807) (.R [.str (n_2.1++#[(47:UInt8)].toList++n.1),.i 0] [])))))))) ?_;simp only [q17,Tree.holds,zf,inR,lo,hi,Int.toNat_natCast];refine⟨(s,t),⟨by simp,by omega,by omega⟩,⟨_,rfl⟩,?_⟩;rintro _ rfl;by_cases he:zz s t=0
 ·obtain⟨e1,e2⟩:=zu.1 he;have eg:gcdR s t=wr false (Nat.gcd (numI s) (numI t)):=if_pos he;by_cases h0:numI t=0
  ·have ht0:t=[48]:=(uU e2).2 h0;have hg0:Nat.gcd (numI s) (numI t)=numI s:=by rw [h0,Nat.gcd_zero_right]
   have hz:(gcdR s t).2=0:=by rw [eg,hg0]; exact kE (jG e1)
   have e:wi s t=([],16):=by rw [wi,if_neg (by rw [he]; decide),if_pos h0]
   rw [e] at hq;refine⟨λh=>(by simp [hz] at h),λ_=>⟨λ_=>RetR.scal hq rfl (by simp [resV]),λh=>(by simp [ht0] at h)⟩⟩
  ·obtain⟨g0,gr⟩:=YK (s:=s) e2 h0;have hz:(gcdR s t).2=0:=by rw [eg]; exact kE gr
   have ht0:t≠[48]:=λh=>h0 ((uU e2).1 h)
   have htn:t≠[]:=by rintro rfl; simp [YX] at e2
   have hneg:=Vs htn;have e:wi s t=(VD (negI s != negI t) (numI s) (numI t),0):=by rw [wi,if_neg (by rw [he]; decide),if_neg h0]
   rw [e,VD] at hq;have ds:Nat.gcd (numI s) (numI t) ∣ numI s:=Nat.gcd_dvd_left _ _;have dt:Nat.gcd (numI s) (numI t) ∣ numI t:=Nat.gcd_dvd_right _ _;generalize hgg:Nat.gcd (numI s) (numI t)=g at *
   have rt:=room_le (Nat.div_le_self (numI t) g) (jG e2);have l1:=kf false g;have l2:=kf true g
   have fin:∀ b:Bool,b=negI t->∀ (z w:L8×L8×Int),z=dmI s (wr b g).1->w=dmI t (wr b g).1 ->
     (decide (w.1=[49])=true->RetR zcg 0 Q [.str z.1,.i 0] [])/\(decide (w.1=[49])=false->z.1.length+1<=9223372036854775807/\(z.1.length+1<=9223372036854775807->(z.1++[47]).length+w.1.length<=9223372036854775807/\((z.1++[47]).length+w.1.length<=9223372036854775807->RetR zcg 0 Q [.str (z.1++[47]++w.1),.i 0] []))):=by
    rintro b rfl z w rfl rfl;rw [Yr e1 g0 gr ds,Yr e2 g0 gr dt];simp only;have:(negI t != negI t)=false:=by simp
    rw [this];have k1:=kf (negI s != negI t) (numI s/g);have k2:=kf false (numI t/g);refine⟨λh=> ?_,λh=>⟨by omega,λ_=>⟨by simp; omega,λ_=> ?_⟩⟩⟩
    ·have h1:=(zad rt).1 (of_decide_eq_true h);rw [if_pos h1] at hq;exact RetR.scal hq rfl (by simp [resV])
    ·have h1:¬ numI t/g=1:=λh1=>of_decide_eq_false h ((zad rt).2 h1)
     rw [if_neg h1] at hq;exact RetR.scal hq rfl (by simp [resV])
   rw [eg] at hz ⊢;refine⟨λh=>(by simp [hz] at h),λ_=>⟨λh=>absurd (of_decide_eq_true h) ht0,λ_=>⟨⟨by omega,by have:=List.length_pos_iff.2 htn; omega⟩,λ_=>⟨λhb=>⟨by omega,λ_=> ?_⟩,λhb=> ?_⟩⟩⟩⟩
   ·have hn:negI t=true:=by
     rw [hneg,decide_eq_true_eq];exact YE (of_decide_eq_true hb)
    rw [zi7 g0 gr];refine⟨(s,(wr true g).1),⟨by simp,by show s.length<_; omega,by show(wr true g).1.length<_; omega⟩,⟨_,rfl⟩,?_⟩;intro z hz;refine⟨(t,(wr true g).1),⟨by simp,by show t.length<_; omega,by show(wr true g).1.length<_; omega⟩,⟨_,rfl⟩,?_⟩;intro w hw;exact fin true hn.symm z w hz hw
   ·have hn:negI t=false:=by
     rw [hneg,decide_eq_false_iff_not];intro h;apply of_decide_eq_false hb;rw [h]; rfl
    refine⟨(s,(wr false g).1),⟨by simp,by show s.length<_; omega,by show(wr false g).1.length<_; omega⟩,⟨_,rfl⟩,?_⟩;intro z hz;refine⟨(t,(wr false g).1),⟨by simp,by show t.length<_; omega,by show(wr false g).1.length<_; omega⟩,⟨_,rfl⟩,?_⟩;intro w hw;exact fin false hn.symm z w hz hw
 ·have eg:gcdR s t=([],zz s t):=if_neg he;have e:wi s t=([],zz s t):=if_pos he;rw [e] at hq;rw [eg];exact⟨λ_=>RetR.scal hq rfl (by simp [resV]),λh=>by simp [he] at h⟩
noncomputable def K75:List Go.Sx.Item:=[.code (Tryz.f75.body.getD .skip)]
structure Pr where
 n:L8
 m:L8
 d:L8
 c:L8
 e:Int
def Pr.box(p:Pr):Blk:=.box [.str p.n,.str p.m,.str p.d,.str p.c,.i p.e]
def Pr.err(p:Pr)(e:Int):Pr:=⟨p.n,p.m,p.d,p.c,e⟩
inductive QOp where
 | add | sub | mul
def QOp.fn:QOp->Nat
 | .add=>88
 | .sub=>79
 | .mul=>77
def QOp.has:QOp->Prop
 | .sub=>True
 | _=>True
def QOp.op:QOp->L8->L8->L8×Int
 | .add=>addI
 | .sub=>subI
 | .mul=>mulI
def jw(a b:L8):Pr:=if errR a≠0 then⟨[],[],[],[],errR a⟩ else if errR b≠0 then⟨numR a,[],denR a,[],errR b⟩ else⟨numR a,numR b,denR a,denR b,0⟩
def zl1:Ctr:=ctrT false false (λp:L8×L8=>[.str p.1,.str p.2]) (λ_=>[]) (λp=>p.1.length<2^62/\p.2.length<2^62) (λp r=>r=jw p.1 p.2) (λ_ (r:Pr)=>(.ptr 0 0,[r.box]))
def zho:Ctr:=ctrT false false (λp:Pr×QOp=>[.ptr 0 0,.fn p.2.fn [] []]) (λp=>[p.1.box]) (λ_=>True) (λ_ (_:Unit)=>True) (λp _=>(.fn 103 [] [.ptr 1 0,.ptr 2 0],[p.1.box,.box [.ptr 0 0],.box [.fn p.2.fn [] []]]))
structure KX where
 p:Pr
 o:QOp
 x:L8
 y:L8
def Us:Ctr:=ctrT false false (λk:KX=>[.str k.x,.str k.y,.ptr 0 0,.ptr 2 0]) (λk=>[.box [.ptr 1 0],k.p.box,.box [.fn k.o.fn [] []]]) (λk=>k.x.length<2^62/\k.y.length<2^62/\k.o.has) (λk r=>r=if k.p.e≠0 then([],k.p.e) else k.o.op k.x k.y)
 (λk (r:L8×Int)=>(.str r.1,[.box [.ptr 1 0],(k.p.err r.2).box,.box [.fn k.o.fn [] []]]))
def zfv:Ctr:=ctrT false false (λk:Pr×L8×L8=>[.ptr 0 0,.str k.2.1,.str k.2.2]) (λk=>[k.1.box]) (λk=>k.2.1.length<2^62/\k.2.2.length<2^62) (λk r=>r=if k.1.e≠0 then([],k.1.e) else wi k.2.1 k.2.2)
 (λk (r:L8×Int)=>(.tup [.str r.1,.i r.2],[k.1.box]))
theorem zl5:zd Tryz.prog 76 zho:=by
 refine z7 (fn:=Tryz.f76) (c:=Tryz.f76.body.getD .skip) rfl rfl rfl (λh=>by cases h) λp hp O w0 I0 Q hl0 hq=> ?_
 obtain⟨p,o⟩:=p;replace hq:=hq () trivial;refine zb.n z9 [] (.R [.fn 103 [] [.ptr 1 0,.ptr 2 0]] [.box [.str p.n,.str p.m,.str p.d,.str p.c,.i p.e],.box [.ptr 0 0],.box [.fn (QOp.fn o) [] []]]) ?_;simp only [Tree.holds,zf];refine RetR.keep [0,1,2] rfl rfl (by show ∀ j,j<1->_; decide) rfl hq ?_ ?_ rfl
 ·rfl
 ·exact⟨⟨rfl,rfl,rfl,rfl,⟨rfl,rfl⟩,trivial⟩,⟨⟨rfl,rfl⟩,trivial⟩,⟨rfl,trivial⟩,trivial⟩
noncomputable def GK1:=tb zqu (tb zq2 (tb zqd tz))
theorem zgw:zd Tryz.prog 103 Us:=by
 refine z7 (fn:=Tryz.f103) (c:=Tryz.f103.body.getD .skip) rfl rfl rfl (λh=>by cases h) λk hk O w0 I0 Q hl0 hq=> ?_
 obtain⟨⟨n,m,d,c,e⟩,o,x,y⟩:=k;obtain⟨h1,h2,h3⟩:=hk;replace hq:=hq _ rfl;simp only at h1 h2 h3 hq
 have fin:∀ r:L8×Int,(if e≠0 then([],e) else o.op x y)=r->RetR Us 3 Q [.str r.1] [.box [.ptr 1 0],.box [.str n,.str m,.str d,.str c,.i r.2],.box [.fn o.fn [] []]]:=by
  rintro r rfl;refine RetR.keep [0,1,2] rfl rfl (by show ∀ j,j<3->_; decide) rfl hq ?_ ?_ rfl
  ·rfl
  ·exact⟨⟨⟨rfl,rfl⟩,trivial⟩,⟨rfl,rfl,rfl,rfl,⟨rfl,rfl⟩,trivial⟩,⟨rfl,trivial⟩,trivial⟩
 cases o with
 | add=>
  refine zb.n GK1.h [] (.N (e=0) (.R [.str #[].toList] [.box [.ptr 1 0],.box [.str n,.str m,.str d,.str c,.i e],.box [.fn 88 [] []]]) (.ex (q17 [.str x,.str y]) λn_1=>.all (λ(r:L8×Int)=>r=addI n_1.1 n_1.2) λn_2=>.R [.str n_2.1] [.box [.ptr 1 0],.box [.str n,.str m,.str d,.str c,.i n_2.2],.box [.fn 88 [] []]])) ?_;simp only [q17,Tree.holds,zf];refine⟨λh=> ?_,λh=>⟨(x,y),⟨by simp,h1,h2⟩,⟨_,rfl⟩,?_⟩⟩
  ·have h:e≠0:=by simpa using h
   exact fin ([],e) (if_pos h)
  ·have h:e=0:=by simpa using h
   rintro _ rfl;exact fin (addI x y) (if_neg (by simp [h]))
 | sub=>
  refine zb.n GK1.h [] (.N (e=0) (.R [.str #[].toList] [.box [.ptr 1 0],.box [.str n,.str m,.str d,.str c,.i e],.box [.fn 79 [] []]]) (.ex (q17 [.str x,.str y]) λn_1=>.all (λ(r:L8×Int)=>r=subI n_1.1 n_1.2) λn_2=>.R [.str n_2.1] [.box [.ptr 1 0],.box [.str n,.str m,.str d,.str c,.i n_2.2],.box [.fn 79 [] []]])) ?_;simp only [q17,Tree.holds,zf];refine⟨λh=> ?_,λh=>⟨(x,y),⟨by simp,h1,h2⟩,⟨_,rfl⟩,?_⟩⟩
  ·have h:e≠0:=by simpa using h
   exact fin ([],e) (if_pos h)
  ·have h:e=0:=by simpa using h
   rintro _ rfl;exact fin (subI x y) (if_neg (by simp [h]))
 | mul=>
  refine zb.n GK1.h [] (.N (e=0) (.R [.str #[].toList] [.box [.ptr 1 0],.box [.str n,.str m,.str d,.str c,.i e],.box [.fn 77 [] []]]) (.ex (q17 [.str x,.str y]) λn_1=>.all (λ(r:L8×Int)=>r=mulI n_1.1 n_1.2) λn_2=>.R [.str n_2.1] [.box [.ptr 1 0],.box [.str n,.str m,.str d,.str c,.i n_2.2],.box [.fn 77 [] []]])) ?_;simp only [q17,Tree.holds,zf];refine⟨λh=> ?_,λh=>⟨(x,y),⟨by simp,h1,h2⟩,⟨_,rfl⟩,?_⟩⟩
  ·have h:e≠0:=by simpa using h
   exact fin ([],e) (if_pos h)
  ·have h:e=0:=by simpa using h
   rintro _ rfl;exact fin (mulI x y) (if_neg (by simp [h]))
noncomputable def GMd:=tb zlv tz
theorem zmd:zd Tryz.prog 78 zfv:=by
 refine z7 (fn:=Tryz.f78) (c:=Tryz.f78.body.getD .skip) rfl rfl rfl (λh=>by cases h) λk hk O w0 I0 Q hl0 hq=> ?_
 obtain⟨⟨n,m,d,c,e⟩,x,y⟩:=k;obtain⟨h1,h2⟩:=hk;replace hq:=hq _ rfl;simp only at h1 h2 hq
 have fin:∀ r:L8×Int,(if e≠0 then([],e) else wi x y)=r->RetR zfv 1 Q [.str r.1,.i r.2] [.box [.str n,.str m,.str d,.str c,.i e]]:=by
  rintro r rfl;refine RetR.keep [0] rfl rfl (by show ∀ j,j<1->_; decide) rfl hq ?_ ?_ rfl
  ·exact⟨rfl,⟨rfl,rfl⟩,trivial⟩
  ·exact⟨⟨rfl,rfl,rfl,rfl,⟨rfl,rfl⟩,trivial⟩,trivial⟩
 refine zb.n GMd.h [] (let v1:List Blk:=[.box [.str n,.str m,.str d,.str c,.i e]];.N (e=0) (.R [.str #[].toList,.i e] v1) (.ex (q17 [.str x,.str y]) λn_1=>.all (λ(r:L8×Int)=>r=wi n_1.1 n_1.2) λn_2=>.R [.str n_2.1,.i n_2.2] v1)) ?_;simp only [q17,Tree.holds,zf];refine⟨λh=> ?_,λh=>⟨(x,y),⟨by simp,h1,h2⟩,⟨_,rfl⟩,?_⟩⟩
 ·have h:e≠0:=by simpa using h
  exact fin ([],e) (if_pos h)
 ·have h:e=0:=by simpa using h
  rintro _ rfl;exact fin (wi x y) (if_neg (by simp [h]))
def Pst(a b:L8):Nat->Pr
 | 0=>⟨[],[],[],[],0⟩
 | 1=>if errR a≠0 then⟨[],[],[],[],errR a⟩ else⟨numR a,[],denR a,[],0⟩
 | _=>jw a b
def SBq(a b:L8)(i:Nat):KV:=[(5,.ptr 0 0),(12,.agg [.str a,.str b]),(13,.i (i:Int))]
noncomputable def GBq:=tb zj8 tz
theorem zgf:zd Tryz.prog 75 zl1:=by
 refine z7 (fn:=Tryz.f75) (c:=Tryz.f75.body.getD .skip) rfl rfl rfl (λh=>by cases h) λp hp O w0 I0 Q hl0 hq=> ?_
 obtain rfl:I0=[]:=List.length_eq_zero_iff.1 hl0;obtain⟨a,b⟩:=p;obtain⟨h1,h2⟩:=hp;replace hq:=hq _ rfl;simp only at h1 h2 hq;refine zb.n GBq.h [5,12,13] (.leaf (.loop (lps K75 0).1 (lps K75 0).2 [(5,.ptr 0 0),(12,.agg [.str a,.str b]),(13,.i 0)] [.box [.str #[].toList,.str #[].toList,.str #[].toList,.str #[].toList,.i 0]])) ?_;simp only [Tree.holds,zf];refine zb.loop (ι:={i:Nat // i<=2}) (λi=>SBq a b i.1) (λi=>[(Pst a b i.1).box]) (λi=>2 - i.1) ⟨0,Nat.zero_le _⟩ 0 ?_ ?_ (by kernel_rfl)
 ·exact⟨by simp [SBq],by simp [Pst,Pr.box],by kernel_rfl,Nat.zero_le _⟩
 rintro⟨i,hil⟩
 match i,hil with
 | 0,_=>
  refine zb.n GBq.h [5,12,13] (let v2:List Blk:=[.box [.str [],.str [],.str [],.str [],.i 0]];let v1:List (Nat×AV):=[(5,.ptr 0 0),(12,.agg [.str a,.str b]),(13,.i 1)];.ite true (.side ((0:Int)<=0/\(0:Int)<2/\1<=List.length [AV.str a,AV.str b]) (.ite true (.ex (q15 [.str a]) λn=>.all (λ(r:L8×L8×Int)=>r=if errR n=0 then(numR n,denR n,(0:Int)) else([],[],errR n)) λn=>.side ((0:Int)<=0/\(0:Int)<2) (.side ((0:Int)<=0/\(0:Int)<2) (.S 1 (.leaf (.back 0 v1 [.box [.str n.1,.str [],.str n.2.1,.str [],.i n.2.2]]))))) (.S 1 (.leaf (.back 0 v1 v2))))) (.R [.ptr 0 0] v2)) ?_;simp only [q15,Tree.holds,zf,inR,lo,hi,Int.toNat_natCast];refine⟨λ_=>⟨by simp,λ_=>⟨λ_=>⟨a,⟨by simp,h1⟩,⟨_,rfl⟩,?_⟩,λh=>(by cases h)⟩⟩,λh=>(by cases h)⟩;intro r hr;refine⟨by decide,λ_=>⟨by decide,λ_=>⟨by decide,λ_=> ?_⟩⟩⟩;rw [if_pos trivial];refine⟨⟨1,by decide⟩,by decide,by simp [SBq],?_,by kernel_rfl,Nat.zero_le _⟩
  have e:Pst a b 1=⟨r.1,[],r.2.1,[],r.2.2⟩:=by
   rw [hr];by_cases h:errR a=0
   ·simp [Pst,h]
   ·simp [Pst,h]
  show eqH _ [(Pst a b 1).box];rw [e];simp [Pr.box]
 | 1,_=>
  obtain⟨⟨n,m,d,c,e⟩,hp⟩:∃ p,Pst a b 1=p:=⟨_,rfl⟩;simp only [hp];refine zb.n GBq.h [5,12,13] (let v2:List Blk:=[.box [.str n,.str m,.str d,.str c,.i e]];let v1:List (Nat×AV):=[(5,.ptr 0 0),(12,.agg [.str a,.str b]),(13,.i 2)];.ite true (.side ((0:Int)<=1/\(1:Int)<2/\2<=List.length [AV.str a,AV.str b]) (.D (e=0) (.ex (q15 [.str b]) λn_1=>.all (λ(r:L8×L8×Int)=>r=if errR n_1=0 then(numR n_1,denR n_1,(0:Int)) else([],[],errR n_1)) λn_2=>.side ((0:Int)<=1/\(1:Int)<2) (.side ((0:Int)<=1/\(1:Int)<2) (.S 2 (.leaf (.back 0 v1 [.box [.str n,.str n_2.1,.str d,.str n_2.2.1,.i n_2.2.2]]))))) (.S 2 (.leaf (.back 0 v1 v2))))) (.R [.ptr 0 0] v2)) ?_;simp only [q15,Tree.holds,zf,inR,lo,hi,Int.toNat_natCast];refine⟨λ_=>⟨by simp,λ_=>⟨λh=>⟨b,⟨by simp,h2⟩,⟨_,rfl⟩,?_⟩,λh=>⟨by decide,λ_=> ?_⟩⟩⟩,λh=>(by cases h)⟩
  ·have h:e=0:=by simpa using h
   intro r hr;refine⟨by decide,λ_=>⟨by decide,λ_=>⟨by decide,λ_=> ?_⟩⟩⟩;rw [if_pos trivial];refine⟨⟨2,by decide⟩,by decide,by simp [SBq],?_,by kernel_rfl,Nat.zero_le _⟩
   have e2:Pst a b 2=⟨n,r.1,d,r.2.1,r.2.2⟩:=by
    rw [hr];by_cases ha:errR a=0
    ·simp only [Pst,ha] at hp;simp at hp;obtain⟨rfl,rfl,rfl,rfl,_⟩:=hp;by_cases hb:errR b=0
     ·simp [Pst,jw,ha,hb]
     ·simp [Pst,jw,ha,hb]
    ·simp only [Pst] at hp;rw [if_pos ha] at hp;cases hp;exact absurd h ha
   show eqH _ [(Pst a b 2).box];rw [e2];simp [Pr.box]
  ·have h:e≠0:=by simpa using h
   rw [if_pos trivial];refine⟨⟨2,by decide⟩,by decide,by simp [SBq],?_,by kernel_rfl,Nat.zero_le _⟩
   have e2:Pst a b 2=⟨n,m,d,c,e⟩:=by
    by_cases ha:errR a=0
    ·simp only [Pst,ha] at hp;simp at hp;exact absurd hp.2.2.2.2.symm h
    ·rw [<- hp];simp only [Pst,jw];rw [if_pos ha,if_pos ha]
   show eqH _ [(Pst a b 2).box];rw [e2];simp [Pr.box]
 | 2,_=>
  obtain⟨⟨n,m,d,c,e⟩,hp⟩:∃ p,Pst a b 2=p:=⟨_,rfl⟩;simp only [hp];refine zb.n GBq.h [5,12,13] (.ite false (.side ((0:Int)<=2/\(2:Int)<2/\3<=List.length [AV.str a,AV.str b]) .fail) (.R [.ptr 0 0] [.box [.str n,.str m,.str d,.str c,.i e]])) ?_;simp only [Tree.holds,zf,inR,lo,hi,Int.toNat_natCast];refine⟨λh=>(by cases h),λ_=> ?_⟩;have hp:jw a b=⟨n,m,d,c,e⟩:=hp;rw [hp] at hq;refine RetR.out1 0 (by show 0<1; decide) hq (λh=>by cases h) ?_ ?_
  ·exact⟨rfl,rfl⟩
  ·exact⟨rfl,rfl,rfl,rfl,⟨rfl,rfl⟩,trivial⟩
theorem k5(a b:L8):((jw a b).e≠0/\wv a b=(jw a b).e)\/((jw a b).e=0/\errR a=0/\errR b=0/\(jw a b).n=numR a/\(jw a b).m=numR b/\(jw a b).d=denR a/\(jw a b).c=denR b):=by
 unfold jw;by_cases ha:errR a=0
 ·rw [if_neg (by rw [ha]; simp)];by_cases hb:errR b=0
  ·rw [if_neg (by rw [hb]; simp)];exact .inr ⟨rfl,ha,hb,rfl,rfl,rfl,rfl⟩
  ·rw [if_pos hb];exact .inl ⟨hb,by unfold wv; rw [if_pos ha]⟩
 ·rw [if_pos ha];exact .inl ⟨ha,by unfold wv; rw [if_neg ha]⟩
theorem y7(a b:L8):(jw a b).n.length<=a.length/\(jw a b).m.length<=b.length/\(jw a b).d.length<=a.length+1/\(jw a b).c.length<=b.length+1:=by
 have h1:=Yz a;have h2:=Yz b;have h3:=Yw a;have h4:=Yw b;unfold jw;split
 ·simp
 ·split
  ·simp; omega
  ·simp only; omega
theorem kx_l(x y:L8):eqL [.str x,.str y,.ptr 0 0,.ptr 2 0] [.str x,.str y,.ptr 0 0,.ptr 2 0]:=⟨rfl,rfl,⟨rfl,rfl⟩,⟨rfl,rfl⟩,trivial⟩
theorem kx_b(p:Pr):eqH [.box [.str p.n,.str p.m,.str p.d,.str p.c,.i p.e]] [.box [.str p.n,.str p.m,.str p.d,.str p.c,.i p.e]]:=⟨⟨rfl,rfl,rfl,rfl,⟨rfl,rfl⟩,trivial⟩,trivial⟩
theorem kx_h(p:Pr)(f:Nat):eqH [.box [.ptr 1 0],.box [.str p.n,.str p.m,.str p.d,.str p.c,.i p.e],.box [.fn f [] []]] [.box [.ptr 1 0],.box [.str p.n,.str p.m,.str p.d,.str p.c,.i p.e],.box [.fn f [] []]]:=⟨⟨⟨rfl,rfl⟩,trivial⟩,(kx_b p).1,⟨rfl,trivial⟩,trivial⟩
theorem kx_k(f:Nat):eqL [.ptr 0 0,.fn f [] []] [.ptr 0 0,.fn f [] []]:=⟨⟨rfl,rfl⟩,rfl,trivial⟩
theorem kx_m(x y:L8):eqL [.ptr 0 0,.str x,.str y] [.ptr 0 0,.str x,.str y]:=⟨⟨rfl,rfl⟩,rfl,rfl,trivial⟩
theorem qE(p:Pr)(o:QOp)(x y:L8){r:L8×Int}(h:r=if p.e≠0 then([],p.e) else o.op x y):r.1.length<=1001:=by
 rw [h];refine zo0 ?_;cases o
 ·exact zht x y
 ·exact zhq x y
 ·exact zkt x y
noncomputable def GQA:=tb zgf (tb zl5 (tb zgw (tb zmd (tb zo6 tz))))
def zbo:Ctr:=ctrP true (λp:L8×L8=>[.str p.1,.str p.2]) (λp=>p.1.length<2^61/\p.2.length<2^61) (λp r=>r=addR p.1 p.2) (λ_ r=>(.tup [.str r.1,.i r.2],[]))
def zd2:Ctr:=ctrP true (λp:L8×L8=>[.str p.1,.str p.2]) (λp=>p.1.length<2^61/\p.2.length<2^61) (λp r=>r=subR p.1 p.2) (λ_ r=>(.tup [.str r.1,.i r.2],[]))
def VK:Ctr:=ctrP true (λp:L8×L8=>[.str p.1,.str p.2]) (λp=>p.1.length<2^61/\p.2.length<2^61) (λp r=>r=mulR p.1 p.2) (λ_ r=>(.tup [.str r.1,.i r.2],[]))
def zp3:Ctr:=ctrP true (λp:L8×L8=>[.str p.1,.str p.2]) (λp=>p.1.length<2^61/\p.2.length<2^61) (λp r=>r=cmpR p.1 p.2) (λ_ r=>(.tup [.i r.1,.i r.2],[]))
abbrev q43(A:List AV)(H:Heap)(x:Pr×L8×L8):Prop:=eqL A [.ptr 0 0,.str x.2.1,.str x.2.2]/\eqH H [.box [.str x.1.n,.str x.1.m,.str x.1.d,.str x.1.c,.i x.1.e]]/\1=1/\x.2.1.length<4611686018427387904/\x.2.2.length<4611686018427387904
abbrev q42(A:List AV)(H:Heap)(x:KX):Prop:=eqL A [.str x.x,.str x.y,.ptr 0 0,.ptr 2 0]/\eqH H [.box [.ptr 1 0],.box [.str x.p.n,.str x.p.m,.str x.p.d,.str x.p.c,.i x.p.e],.box [.fn (QOp.fn x.o) [] []]]/\3=3/\x.x.length<4611686018427387904/\x.y.length<4611686018427387904/\QOp.has x.o
abbrev q41(A:List AV)(H:Heap)(x:Pr×QOp):Prop:=eqL A [.ptr 0 0,.fn (QOp.fn x.2) [] []]/\eqH H [.box [.str x.1.n,.str x.1.m,.str x.1.d,.str x.1.c,.i x.1.e]]/\1=1/\True
abbrev q40(A:List AV)(H:Heap)(x:L8×L8):Prop:=eqL A [.str x.1,.str x.2]/\eqH H []/\0=0/\x.1.length<4611686018427387904/\x.2.length<4611686018427387904
theorem KK:zd Tryz.prog 57 zbo:=by
 refine zk (fn:=Tryz.f57) (c:=Tryz.f57.body.getD .skip) rfl rfl rfl λp hp O w0 Q hq=> ?_
 obtain⟨a,b⟩:=p;obtain⟨h1,h2⟩:=hp;replace hq:=hq _ rfl;simp only at h1 h2 hq;refine zb.n GQA.h [] (let v5:=[AV.ptr 1 0];.ex (q40 [.str a,.str b] []) λn=>.all (λ(r:Pr)=>r=jw n.1 n.2) λn=>.ex (q41 [.ptr 0 0,.fn 77 [] []] [.box [.str n.n,.str n.m,.str n.d,.str n.c,.i n.e]]) λn=>.A λn_1=>.ex (q41 [.ptr 0 0,.fn 88 [] []] [.box [.str n.1.n,.str n.1.m,.str n.1.d,.str n.1.c,.i n.1.e]]) λn_2=>.A λn_3=>.side ((0:Int)<=0/\(0:Int)<2) (.side ((0:Int)<=1/\(1:Int)<2) (.side ((0:Int)<=1/\(1:Int)<2) (.side ((0:Int)<=0/\(0:Int)<2) (.side ((0:Int)<=0/\(0:Int)<2) (.side ((0:Int)<=1/\(1:Int)<2) (.ex (q42 [.str n_2.1.n,.str n_2.1.c,.ptr 0 0,.ptr 2 0] [.box v5,.box [.str n_2.1.n,.str n_2.1.m,.str n_2.1.d,.str n_2.1.c,.i n_2.1.e],.box [.fn (QOp.fn n.2) [] []]]) λn=>.all (λ(r:L8×Int)=>r=if Pr.e n.p≠0 then([],Pr.e n.p) else QOp.op n.o n.x n.y) λn_4=>let v1:=Pr.err n.p n_4.2;.side (Pr.c v1=Pr.c n_2.1) (.side (Pr.d v1=Pr.d n_2.1) (.side (Pr.d v1=Pr.d n_2.1) (.side (Pr.m v1=Pr.m n_2.1) (.ex (q42 [.str n_2.1.m,.str n_2.1.d,.ptr 0 0,.ptr 2 0] [.box v5,.box [.str v1.n,.str v1.m,.str v1.d,.str v1.c,.i v1.e],.box [.fn (QOp.fn n.o) [] []]]) λn=>.all (λ(r:L8×Int)=>r=if Pr.e n.p≠0 then([],Pr.e n.p) else QOp.op n.o n.x n.y) λn_5=>let v3:=Pr.err n.p n_5.2;.side (Pr.c v3=Pr.c n_2.1) (.side (Pr.d v3=Pr.d n_2.1) (.ex (q42 [.str n_4.1,.str n_5.1,.ptr 0 0,.ptr 2 0] [.box v5,.box [.str v3.n,.str v3.m,.str v3.d,.str v3.c,.i v3.e],.box [.fn (QOp.fn n_2.2) [] []]]) λn_6=>.all (λ(r:L8×Int)=>r=if Pr.e n_6.p≠0 then([],Pr.e n_6.p) else QOp.op n_6.o n_6.x n_6.y) λn_7=>let v2:=Pr.err n_6.p n_7.2;.side (Pr.c v2=Pr.c n_2.1) (.side (Pr.d v2=Pr.d n_2.1) (.ex (q42 [.str n_2.1.d,.str n_2.1.c,.ptr 0 0,.ptr 2 0] [.box v5,.box [.str v2.n,.str v2.m,.str v2.d,.str v2.c,.i v2.e],.box [.fn (QOp.fn n.o) [] []]]) λn=>.all (λ(r:L8×Int)=>r=if Pr.e n.p≠0 then([],Pr.e n.p) else QOp.op n.o n.x n.y) λn_8=>let v4:=Pr.err n.p n_8.2;.ex (q43 [.ptr 0 0,.str n_7.1,.str n_8.1] [.box [.str v4.n,.str v4.m,.str v4.d,.str v4.c,.i v4.e]]) λn_9=>.all (λ(r:L8×Int)=>r=if Pr.e n_9.1≠0 then([],Pr.e n_9.1) else wi n_9.2.1 n_9.2.2) λn_10=>.R [.str n_10.1,.i n_10.2] [.box [.str n_9.1.n,.str n_9.1.m,.str n_9.1.d,.str n_9.1.c,.i n_9.1.e],.box [.ptr 0 0],.box [.fn (QOp.fn n.o) [] []],.box [.ptr 0 0],.box [.fn (QOp.fn n_6.o) [] []]]))))))))))))))) ?_;simp only [q40,q41,q42,q43,Tree.holds,zf];refine⟨(a,b),⟨⟨rfl,rfl,trivial⟩,trivial,by trivial,by show a.length<_; omega,by show b.length<_; omega⟩,⟨_,rfl⟩,?_⟩;intro p hp;have hc:=k5 a b;obtain⟨l1,l2,l3,l4⟩:=y7 a b;rw [<- hp] at hc l1 l2 l3 l4;refine⟨(p,.mul),⟨kx_k _,kx_b p,by trivial,trivial⟩,⟨(),trivial⟩,?_⟩;intro _ _;refine⟨(p,.add),⟨kx_k _,kx_b p,by trivial,trivial⟩,⟨(),trivial⟩,?_⟩;intro _ _
 iterate 6 refine⟨by decide,λ_=> ?_⟩
 refine⟨⟨p,.mul,p.n,p.c⟩,⟨kx_l _ _,kx_h (p) _,by trivial,by show(p.n).length<_; omega,by show(p.c).length<_; omega,by trivial⟩,⟨_,rfl⟩,?_⟩;intro r1 hr1;have kr1:=qE _ _ _ _ hr1
 iterate 4 refine⟨rfl,λ_=> ?_⟩
 refine⟨⟨p.err r1.2,.mul,p.m,p.d⟩,⟨kx_l _ _,kx_h (p.err r1.2) _,by trivial,by show(p.m).length<_; omega,by show(p.d).length<_; omega,by trivial⟩,⟨_,rfl⟩,?_⟩;intro r2 hr2;have kr2:=qE _ _ _ _ hr2
 iterate 2 refine⟨rfl,λ_=> ?_⟩
 refine⟨⟨(p.err r1.2).err r2.2,.add,r1.1,r2.1⟩,⟨kx_l _ _,kx_h ((p.err r1.2).err r2.2) _,by trivial,by show(r1.1).length<_; omega,by show(r2.1).length<_; omega,by trivial⟩,⟨_,rfl⟩,?_⟩;intro r3 hr3;have kr3:=qE _ _ _ _ hr3
 iterate 2 refine⟨rfl,λ_=> ?_⟩
 refine⟨⟨((p.err r1.2).err r2.2).err r3.2,.mul,p.d,p.c⟩,⟨kx_l _ _,kx_h (((p.err r1.2).err r2.2).err r3.2) _,by trivial,by show(p.d).length<_; omega,by show(p.c).length<_; omega,by trivial⟩,⟨_,rfl⟩,?_⟩;intro r4 hr4;have kr4:=qE _ _ _ _ hr4;refine⟨((((p.err r1.2).err r2.2).err r3.2).err r4.2,r3.1,r4.1),⟨kx_m _ _,kx_b _,by trivial,by show(r3.1).length<_; omega,by show(r4.1).length<_; omega⟩,⟨_,rfl⟩,?_⟩;intro r5 hr5;have hfin:=Q0 hc (λ{s t} =>zgi (s:=s) (t:=t)) hr1 hr2 hr3 hr4 hr5;have e:r5=addR a b:=hfin;rw [<- e] at hq;exact RetR.scal hq rfl (by simp [resV])
theorem Xy:zd Tryz.prog 43 zd2:=by
 refine zk (fn:=Tryz.f43) (c:=Tryz.f43.body.getD .skip) rfl rfl rfl λp hp O w0 Q hq=> ?_
 obtain⟨a,b⟩:=p;obtain⟨h1,h2⟩:=hp;replace hq:=hq _ rfl;simp only at h1 h2 hq;refine zb.n GQA.h [] (let v5:=[AV.ptr 1 0];.ex (q40 [.str a,.str b] []) λn=>.all (λ(r:Pr)=>r=jw n.1 n.2) λn=>.ex (q41 [.ptr 0 0,.fn 77 [] []] [.box [.str n.n,.str n.m,.str n.d,.str n.c,.i n.e]]) λn=>.A λn_1=>.ex (q41 [.ptr 0 0,.fn 79 [] []] [.box [.str n.1.n,.str n.1.m,.str n.1.d,.str n.1.c,.i n.1.e]]) λn_2=>.A λn_3=>.side ((0:Int)<=0/\(0:Int)<2) (.side ((0:Int)<=1/\(1:Int)<2) (.side ((0:Int)<=1/\(1:Int)<2) (.side ((0:Int)<=0/\(0:Int)<2) (.side ((0:Int)<=0/\(0:Int)<2) (.side ((0:Int)<=1/\(1:Int)<2) (.ex (q42 [.str n_2.1.n,.str n_2.1.c,.ptr 0 0,.ptr 2 0] [.box v5,.box [.str n_2.1.n,.str n_2.1.m,.str n_2.1.d,.str n_2.1.c,.i n_2.1.e],.box [.fn (QOp.fn n.2) [] []]]) λn=>.all (λ(r:L8×Int)=>r=if Pr.e n.p≠0 then([],Pr.e n.p) else QOp.op n.o n.x n.y) λn_4=>let v1:=Pr.err n.p n_4.2;.side (Pr.c v1=Pr.c n_2.1) (.side (Pr.d v1=Pr.d n_2.1) (.side (Pr.d v1=Pr.d n_2.1) (.side (Pr.m v1=Pr.m n_2.1) (.ex (q42 [.str n_2.1.m,.str n_2.1.d,.ptr 0 0,.ptr 2 0] [.box v5,.box [.str v1.n,.str v1.m,.str v1.d,.str v1.c,.i v1.e],.box [.fn (QOp.fn n.o) [] []]]) λn=>.all (λ(r:L8×Int)=>r=if Pr.e n.p≠0 then([],Pr.e n.p) else QOp.op n.o n.x n.y) λn_5=>let v3:=Pr.err n.p n_5.2;.side (Pr.c v3=Pr.c n_2.1) (.side (Pr.d v3=Pr.d n_2.1) (.ex (q42 [.str n_4.1,.str n_5.1,.ptr 0 0,.ptr 2 0] [.box v5,.box [.str v3.n,.str v3.m,.str v3.d,.str v3.c,.i v3.e],.box [.fn (QOp.fn n_2.2) [] []]]) λn_6=>.all (λ(r:L8×Int)=>r=if Pr.e n_6.p≠0 then([],Pr.e n_6.p) else QOp.op n_6.o n_6.x n_6.y) λn_7=>let v2:=Pr.err n_6.p n_7.2;.side (Pr.c v2=Pr.c n_2.1) (.side (Pr.d v2=Pr.d n_2.1) (.ex (q42 [.str n_2.1.d,.str n_2.1.c,.ptr 0 0,.ptr 2 0] [.box v5,.box [.str v2.n,.str v2.m,.str v2.d,.str v2.c,.i v2.e],.box [.fn (QOp.fn n.o) [] []]]) λn=>.all (λ(r:L8×Int)=>r=if Pr.e n.p≠0 then([],Pr.e n.p) else QOp.op n.o n.x n.y) λn_8=>let v4:=Pr.err n.p n_8.2;.ex (q43 [.ptr 0 0,.str n_7.1,.str n_8.1] [.box [.str v4.n,.str v4.m,.str v4.d,.str v4.c,.i v4.e]]) λn_9=>.all (λ(r:L8×Int)=>r=if Pr.e n_9.1≠0 then([],Pr.e n_9.1) else wi n_9.2.1 n_9.2.2) λn_10=>.R [.str n_10.1,.i n_10.2] [.box [.str n_9.1.n,.str n_9.1.m,.str n_9.1.d,.str n_9.1.c,.i n_9.1.e],.box [.ptr 0 0],.box [.fn (QOp.fn n.o) [] []],.box [.ptr 0 0],.box [.fn (QOp.fn n_6.o) [] []]]))))))))))))))) ?_;simp only [q40,q41,q42,q43,Tree.holds,zf];refine⟨(a,b),⟨⟨rfl,rfl,trivial⟩,trivial,by trivial,by show a.length<_; omega,by show b.length<_; omega⟩,⟨_,rfl⟩,?_⟩;intro p hp;have hc:=k5 a b;obtain⟨l1,l2,l3,l4⟩:=y7 a b;rw [<- hp] at hc l1 l2 l3 l4;refine⟨(p,.mul),⟨kx_k _,kx_b p,by trivial,trivial⟩,⟨(),trivial⟩,?_⟩;intro _ _;refine⟨(p,.sub),⟨kx_k _,kx_b p,by trivial,trivial⟩,⟨(),trivial⟩,?_⟩;intro _ _
 iterate 6 refine⟨by decide,λ_=> ?_⟩
 refine⟨⟨p,.mul,p.n,p.c⟩,⟨kx_l _ _,kx_h (p) _,by trivial,by show(p.n).length<_; omega,by show(p.c).length<_; omega,by trivial⟩,⟨_,rfl⟩,?_⟩;intro r1 hr1;have kr1:=qE _ _ _ _ hr1
 iterate 4 refine⟨rfl,λ_=> ?_⟩
 refine⟨⟨p.err r1.2,.mul,p.m,p.d⟩,⟨kx_l _ _,kx_h (p.err r1.2) _,by trivial,by show(p.m).length<_; omega,by show(p.d).length<_; omega,by trivial⟩,⟨_,rfl⟩,?_⟩;intro r2 hr2;have kr2:=qE _ _ _ _ hr2
 iterate 2 refine⟨rfl,λ_=> ?_⟩
 refine⟨⟨(p.err r1.2).err r2.2,.sub,r1.1,r2.1⟩,⟨kx_l _ _,kx_h ((p.err r1.2).err r2.2) _,by trivial,by show(r1.1).length<_; omega,by show(r2.1).length<_; omega,by trivial⟩,⟨_,rfl⟩,?_⟩;intro r3 hr3;have kr3:=qE _ _ _ _ hr3
 iterate 2 refine⟨rfl,λ_=> ?_⟩
 refine⟨⟨((p.err r1.2).err r2.2).err r3.2,.mul,p.d,p.c⟩,⟨kx_l _ _,kx_h (((p.err r1.2).err r2.2).err r3.2) _,by trivial,by show(p.d).length<_; omega,by show(p.c).length<_; omega,by trivial⟩,⟨_,rfl⟩,?_⟩;intro r4 hr4;have kr4:=qE _ _ _ _ hr4;refine⟨((((p.err r1.2).err r2.2).err r3.2).err r4.2,r3.1,r4.1),⟨kx_m _ _,kx_b _,by trivial,by show(r3.1).length<_; omega,by show(r4.1).length<_; omega⟩,⟨_,rfl⟩,?_⟩;intro r5 hr5;have hfin:=Q0 hc (λ{s t} =>zlh (s:=s) (t:=t)) hr1 hr2 hr3 hr4 hr5;have e:r5=subR a b:=hfin;rw [<- e] at hq;exact RetR.scal hq rfl (by simp [resV])
theorem uJ:zd Tryz.prog 42 VK:=by
 refine zk (fn:=Tryz.f42) (c:=Tryz.f42.body.getD .skip) rfl rfl rfl λp hp O w0 Q hq=> ?_
 obtain⟨a,b⟩:=p;obtain⟨h1,h2⟩:=hp;replace hq:=hq _ rfl;simp only at h1 h2 hq;refine zb.n GQA.h [] (.ex (q40 [.str a,.str b] []) λn=>.all (λ(r:Pr)=>r=jw n.1 n.2) λn=>.ex (q41 [.ptr 0 0,.fn 77 [] []] [.box [.str n.n,.str n.m,.str n.d,.str n.c,.i n.e]]) λn=>.A λn_1=>.side ((0:Int)<=0/\(0:Int)<2) (.side ((0:Int)<=1/\(1:Int)<2) (.side ((0:Int)<=0/\(0:Int)<2) (.side ((0:Int)<=1/\(1:Int)<2) (.ex (q42 [.str n.1.n,.str n.1.m,.ptr 0 0,.ptr 2 0] [.box [.ptr 1 0],.box [.str n.1.n,.str n.1.m,.str n.1.d,.str n.1.c,.i n.1.e],.box [.fn (QOp.fn n.2) [] []]]) λn_2=>.all (λ(r:L8×Int)=>r=if Pr.e n_2.p≠0 then([],Pr.e n_2.p) else QOp.op n_2.o n_2.x n_2.y) λn_3=>let v1:=Pr.err n_2.p n_3.2;.side (Pr.c v1=Pr.c n.1) (.side (Pr.d v1=Pr.d n.1) (.ex (q42 [.str n.1.d,.str n.1.c,.ptr 0 0,.ptr 2 0] [.box [.ptr 1 0],.box [.str v1.n,.str v1.m,.str v1.d,.str v1.c,.i v1.e],.box [.fn (QOp.fn n_2.o) [] []]]) λn=>.all (λ(r:L8×Int)=>r=if Pr.e n.p≠0 then([],Pr.e n.p) else QOp.op n.o n.x n.y) λn_4=>let v2:=Pr.err n.p n_4.2;.ex (q43 [.ptr 0 0,.str n_3.1,.str n_4.1] [.box [.str v2.n,.str v2.m,.str v2.d,.str v2.c,.i v2.e]]) λn_5=>.all (λ(r:L8×Int)=>r=if Pr.e n_5.1≠0 then([],Pr.e n_5.1) else wi n_5.2.1 n_5.2.2) λn_6=>.R [.str n_6.1,.i n_6.2] [.box [.str n_5.1.n,.str n_5.1.m,.str n_5.1.d,.str n_5.1.c,.i n_5.1.e],.box [.ptr 0 0],.box [.fn (QOp.fn n.o) [] []]]))))))) ?_;simp only [q40,q41,q42,q43,Tree.holds,zf];refine⟨(a,b),⟨⟨rfl,rfl,trivial⟩,trivial,by trivial,by show a.length<_; omega,by show b.length<_; omega⟩,⟨_,rfl⟩,?_⟩;intro p hp;have hc:=k5 a b;obtain⟨l1,l2,l3,l4⟩:=y7 a b;rw [<- hp] at hc l1 l2 l3 l4;refine⟨(p,.mul),⟨kx_k _,kx_b p,by trivial,trivial⟩,⟨(),trivial⟩,?_⟩;intro _ _
 iterate 4 refine⟨by decide,λ_=> ?_⟩
 refine⟨⟨p,.mul,p.n,p.m⟩,⟨kx_l _ _,kx_h (p) _,by trivial,by show(p.n).length<_; omega,by show(p.m).length<_; omega,by trivial⟩,⟨_,rfl⟩,?_⟩;intro r1 hr1;have kr1:=qE _ _ _ _ hr1
 iterate 2 refine⟨rfl,λ_=> ?_⟩
 refine⟨⟨p.err r1.2,.mul,p.d,p.c⟩,⟨kx_l _ _,kx_h (p.err r1.2) _,by trivial,by show(p.d).length<_; omega,by show(p.c).length<_; omega,by trivial⟩,⟨_,rfl⟩,?_⟩;intro r2 hr2;have kr2:=qE _ _ _ _ hr2;refine⟨((p.err r1.2).err r2.2,r1.1,r2.1),⟨kx_m _ _,kx_b _,by trivial,by show(r1.1).length<_; omega,by show(r2.1).length<_; omega⟩,⟨_,rfl⟩,?_⟩;intro r3 hr3
 have hv:errR a=0->errR b=0->zz p.n p.m=0/\zz p.d p.c=0:=by
  intro ha hb;obtain⟨a1,a2,_⟩:=qK ha;obtain⟨b1,b2,_⟩:=qK hb;rcases hc with ⟨g1,g2⟩ | ⟨_,_,_,g1,g2,g3,g4⟩
  ·exact absurd g2 (by unfold wv; rw [if_pos ha,hb]; exactλh=>g1 h.symm)
  ·rw [g1,g2,g3,g4]; exact⟨zu.2 ⟨a1,b1⟩,zu.2 ⟨a2,b2⟩⟩
 have hfin:=zfg hc hr1 hr2 hr3 hv
 have e:r3=mulR a b:=by
  rw [hfin];unfold mulR;rcases hc with ⟨g1,g2⟩ | ⟨_,_,_,g1,g2,g3,g4⟩
  ·rw [if_pos (by rw [g2]; exact g1),if_pos (by rw [g2]; exact g1)]
  ·rw [g1,g2,g3,g4]
 rw [<- e] at hq;exact RetR.scal hq rfl (by simp [resV])
theorem zoj:zd Tryz.prog 44 zp3:=by
 refine zk (fn:=Tryz.f44) (c:=Tryz.f44.body.getD .skip) rfl rfl rfl λp hp O w0 Q hq=> ?_
 obtain⟨a,b⟩:=p;obtain⟨h1,h2⟩:=hp;replace hq:=hq _ rfl;simp only at h1 h2 hq;refine zb.n GQA.h [] (.ex (q40 [.str a,.str b] []) λn=>.all (λ(r:Pr)=>r=jw n.1 n.2) λn=>.ex (q41 [.ptr 0 0,.fn 77 [] []] [.box [.str n.n,.str n.m,.str n.d,.str n.c,.i n.e]]) λn=>.A λn_1=>.side ((0:Int)<=0/\(0:Int)<2) (.side ((0:Int)<=1/\(1:Int)<2) (.side ((0:Int)<=1/\(1:Int)<2) (.side ((0:Int)<=0/\(0:Int)<2) (.ex (q42 [.str n.1.n,.str n.1.c,.ptr 0 0,.ptr 2 0] [.box [.ptr 1 0],.box [.str n.1.n,.str n.1.m,.str n.1.d,.str n.1.c,.i n.1.e],.box [.fn (QOp.fn n.2) [] []]]) λn_2=>.all (λ(r:L8×Int)=>r=if Pr.e n_2.p≠0 then([],Pr.e n_2.p) else QOp.op n_2.o n_2.x n_2.y) λn_3=>let v2:=Pr.err n_2.p n_3.2;.side (Pr.d v2=Pr.d n.1) (.side (Pr.m v2=Pr.m n.1) (.ex (q42 [.str n.1.m,.str n.1.d,.ptr 0 0,.ptr 2 0] [.box [.ptr 1 0],.box [.str v2.n,.str v2.m,.str v2.d,.str v2.c,.i v2.e],.box [.fn (QOp.fn n_2.o) [] []]]) λn=>.all (λ(r:L8×Int)=>r=if Pr.e n.p≠0 then([],Pr.e n.p) else QOp.op n.o n.x n.y) λn_4=>let v3:=Pr.err n.p n_4.2;let v1:List Blk:=[.box [.str v3.n,.str v3.m,.str v3.d,.str v3.c,.i v3.e],.box [.ptr 0 0],.box [.fn (QOp.fn n.o) [] []]];.N (Pr.e v3=(0:Int)) (.R [.i 0,.i v3.e] v1) (.ex (q17 [.str n_3.1,.str n_4.1]) λn_5=>.all (λ(r:Int×Int)=>r=VQ n_5.1 n_5.2) λn_6=>.R [.i n_6.1,.i n_6.2] v1)))))))) ?_;simp only [q17,q40,q41,q42,Tree.holds,zf];refine⟨(a,b),⟨⟨rfl,rfl,trivial⟩,trivial,by trivial,by show a.length<_; omega,by show b.length<_; omega⟩,⟨_,rfl⟩,?_⟩;intro p hp;have hc:=k5 a b;obtain⟨l1,l2,l3,l4⟩:=y7 a b;rw [<- hp] at hc l1 l2 l3 l4;refine⟨(p,.mul),⟨kx_k _,kx_b p,by trivial,trivial⟩,⟨(),trivial⟩,?_⟩;intro _ _
 iterate 4 refine⟨by decide,λ_=> ?_⟩
 refine⟨⟨p,.mul,p.n,p.c⟩,⟨kx_l _ _,kx_h (p) _,by trivial,by show(p.n).length<_; omega,by show(p.c).length<_; omega,by trivial⟩,⟨_,rfl⟩,?_⟩;intro r1 hr1;have kr1:=qE _ _ _ _ hr1
 iterate 2 refine⟨rfl,λ_=> ?_⟩
 refine⟨⟨p.err r1.2,.mul,p.m,p.d⟩,⟨kx_l _ _,kx_h (p.err r1.2) _,by trivial,by show(p.m).length<_; omega,by show(p.d).length<_; omega,by trivial⟩,⟨_,rfl⟩,?_⟩;intro r2 hr2;have kr2:=qE _ _ _ _ hr2;have hfin:=zen hc hr1 hr2;refine⟨λh=> ?_,λh=>⟨(r1.1,r2.1),⟨⟨rfl,rfl,trivial⟩,by show r1.1.length<_; omega,by show r2.1.length<_; omega⟩,⟨_,rfl⟩,?_⟩⟩
 ·have h:r2.2≠0:=by
   intro h0;have h':(!decide (r2.2=0))=true:=h;rw [h0] at h'; cases h'
  rw [if_pos h] at hfin;rw [<- hfin] at hq;exact RetR.scal hq rfl (by simp [resV,Pr.err])
 ·have h:r2.2=0:=by
   have h':(!decide (r2.2=0))=false:=h;cases hd:decide (r2.2=0) with
   | true=>exact of_decide_eq_true hd
   | false=>rw [hd] at h'; cases h'
  rw [if_neg (by rw [h]; simp)] at hfin;rintro _ rfl;rw [<- hfin] at hq;exact RetR.scal hq rfl (by simp [resV])
noncomputable def GPd:=tb uJ (tb kP tz)
def zcm:Ctr:=ctrT false false (λp:Deal×Int×L8×L8=>[.ptr 0 0,.str p.2.2.1,.str p.2.2.2]) (λp=>[.box (p.1.cells p.2.1)]) (λp=>p.2.2.1.length<2^60/\p.2.2.2.length<2^60) (λ_ (_:Unit)=>True) (λp _=>(.str (Tm.prod p.2.1 p.2.2.1 p.2.2.2).1,[.box (p.1.cells (Tm.prod p.2.1 p.2.2.1 p.2.2.2).2)]))
abbrev q44(A:List AV)(x:L8×L8):Prop:=eqL A [.str x.1,.str x.2]/\x.1.length<2305843009213693952/\x.2.length<2305843009213693952
theorem Xd:zd Tryz.prog 47 zcm:=by
 refine z7 (fn:=Tryz.f47) (c:=Tryz.f47.body.getD .skip) rfl rfl rfl (λh=>by cases h) λp hp O w0 I0 Q hl0 hq=> ?_
 obtain⟨t,e,a,b⟩:=p;obtain⟨h1,h2⟩:=hp;replace hq:=hq () trivial;simp only at hq h1 h2;refine zb.n GPd.h [] (let v1:List Blk:=[.box [.i e,.str t.long,.str t.short,.str t.ccy,.str t.name,.str t.zc,.str t.zh]];.N (e=0) (.R [.str #[(48:UInt8)].toList] v1) (.ex (q44 [.str a,.str b]) λn=>.all (λ(r:L8×Int)=>r=mulR n.1 n.2) λn=>.D (e=0) (.R [.str n.1] [.box [.i n.2,.str t.long,.str t.short,.str t.ccy,.str t.name,.str t.zc,.str t.zh]]) (.R [.str n.1] v1))) ?_;simp only [q44,Tree.holds,zf];unfold Tm.prod at hq;refine⟨λh=> ?_,λh=> ?_⟩
 ·rw [if_pos (by simpa using h)] at hq;exact RetR.keep [0] rfl rfl (by show ∀ j,j<1->_; decide) rfl hq (by simp [resV,exp2,exp1,exp0,ren0,eqA2]) (by simp [expH,expB,exp1,exp0,ren0,Deal.cells]) rfl
 ·have he:e=0:=by simpa using h
  rw [if_neg (by simpa using h)] at hq;subst he;refine⟨(a,b),⟨⟨rfl,rfl,trivial⟩,by show a.length<_; omega,by show b.length<_; omega⟩,⟨_,rfl⟩,?_⟩;rintro _ rfl;refine⟨λ_=> ?_,λh=>absurd h (by decide)⟩;exact RetR.keep [0] rfl rfl (by show ∀ j,j<1->_; decide) rfl hq (by simp [resV,exp2,exp1,exp0,ren0,eqA2]) (by simp [expH,expB,exp1,exp0,ren0,Deal.cells]) rfl
def zgg:Ctr:=ctrT false false (λp:Deal×Int×Int=>[.ptr 0 0,.i p.2.2]) (λp=>[.box (p.1.cells p.2.1)]) (λ_=>True) (λ_ (_:Unit)=>True) (λp _=>(exD (Tm.fixg p.1.name p.2.2),[.box (p.1.cells p.2.1)]))
theorem zbi:zd Tryz.prog 48 zgg:=by
 refine z7 (fn:=Tryz.f48) (c:=Tryz.f48.body.getD .skip) rfl rfl rfl (λh=>by cases h) λp hp O w0 I0 Q hl0 hq=> ?_
 obtain⟨t,e,d⟩:=p;replace hq:=hq () trivial;refine zb.n z9 [] (let v1:List AV:=[.int .u8 2,.str #[].toList,.str t.name,.i d,.nils];.R [.agg v1] [.box [.i e,.str t.long,.str t.short,.str t.ccy,.str t.name,.str t.zc,.str t.zh],.box v1]) ?_;simp only [Tree.holds,zf];refine RetR.keep [0] rfl rfl (by show ∀ j,j<1->_; decide) rfl hq ?_ (by simp [expH,expB,exp1,exp0,ren0,Deal.cells]) rfl;exact⟨⟨rfl,rfl⟩,rfl,rfl,⟨rfl,rfl⟩,rfl,trivial⟩
theorem Con.QO(e f:Con):eqG 2 12 (zi (zj 12 (e.zg++f.zg)) 0) (Con.conG [e,f]):=by
 intro j o hj ho;simp only [zi,zj,Nat.zero_add];rcases(show j=0\/j=1 by omega) with rfl | rfl<;>rcases(show o=0\/o=1\/o=2\/o=3\/o=4\/o=5\/o=6\/o=7\/o=8\/o=9\/o=10\/o=11 by omega) with rfl | rfl | rfl | rfl | rfl | rfl | rfl | rfl | rfl | rfl | rfl | rfl<;>rfl
theorem zob{a b c:L8}(x:Ex):eqA (.agg [.int .u8 2,.str a,.str b,.str c,.int .u8 x.kind,.str x.rat,.str x.name,.i x.date,.sl x.sub.length 5 x.deep,.i 0,.nils,.nils]) (Con.mk 2 a b c x 0 [] []).conA:=
 ⟨⟨rfl,rfl⟩,rfl,rfl,rfl,⟨rfl,rfl⟩,rfl,rfl,⟨rfl,rfl⟩,⟨rfl,rfl,Ex.qc x⟩,⟨rfl,rfl⟩,rfl,rfl,trivial⟩
def V4(d:Deal)(e:Int)(p:Per)(q:L8):List Con:=[Tm.at_ p.pay (.mk 2 d.long d.short d.ccy (Tm.kon (Tm.prod e d.zc q).1) 0 [] []),Tm.at_ p.pay (Tm.pay d (Tm.fixg d.name p.fix) q)]
structure OneA where
 d:Deal
 e:Int
 p:Per
 q:L8
def OneA.ok(x:OneA):Prop:=Tm.fits x.d/\x.q.length<2^40
noncomputable def GSw1:=tb Xd (tb KB (tb UA (tb K1 (tb zbi tz))))
def zk5:Ctr:=ctrT false false (λx:OneA=>[.ptr 0 0,x.p.av,.str x.q,.ptr 1 0]) (λx=>[.box (x.d.cells x.e),.box [.str x.d.long,.str x.d.short,.str x.d.ccy,.str x.d.name,.str x.d.zc,.str x.d.zh]]) (λx=>x.ok) (λ_ (_:Unit)=>True) (λx _=>(.sl 2 12 (Con.conG (V4 x.d x.e x.p x.q)),[.box (x.d.cells (Tm.prod x.e x.d.zc x.q).2),.box [.str x.d.long,.str x.d.short,.str x.d.ccy,.str x.d.name,.str x.d.zc,.str x.d.zh]]))
abbrev q46(A:List AV)(H:Heap)(x:Deal×Int×Int):Prop:=eqL A [.ptr 0 0,.i x.2.2]/\eqH H [.box [.i x.2.1,.str x.1.long,.str x.1.short,.str x.1.ccy,.str x.1.name,.str x.1.zc,.str x.1.zh]]/\1=1/\True
abbrev q45(A:List AV)(H:Heap)(x:Deal×Int×L8×L8):Prop:=eqL A [.ptr 0 0,.str x.2.2.1,.str x.2.2.2]/\eqH H [.box [.i x.2.1,.str x.1.long,.str x.1.short,.str x.1.ccy,.str x.1.name,.str x.1.zc,.str x.1.zh]]/\1=1/\x.2.2.1.length<1152921504606846976/\x.2.2.2.length<1152921504606846976
theorem ziw:zd Tryz.prog 46 zk5:=by
 refine z7 (fn:=Tryz.f46) (c:=Tryz.f46.body.getD .skip) rfl rfl rfl (λh=>by cases h) λp hp O w0 I0 Q hl0 hq=> ?_
 obtain⟨t,e,p,q⟩:=p;obtain⟨hf,h2⟩:=hp;replace hq:=hq () trivial;simp only at hq hf h2;refine zb.n GSw1.h [] (let v19:=[AV.ptr 0 0,AV.i p.fix];let v16:=Deal.ccy t;let v15:=Deal.long t;let v14:List AV:=[.i p.fix,.i p.pay,.str p.part];let v13:=Deal.short t;let v9:=q45 [.ptr 0 0,.str t.zc,.str q] [.box [.i e,.str v15,.str v13,.str v16,.str t.name,.str t.zc,.str t.zh]];let v8:List AV:=[.str v15,.str v13,.str v16,.str t.name,.str t.zc,.str t.zh];.all (λ(x:Bool)=>True) λn=>.ite n (.ex v9 λn=>let v17:=Tm.prod n.2.1 n.2.2.1 n.2.2.2;let v7:=q46 v19 [.box [.i v17.2,.str n.1.long,.str n.1.short,.str n.1.ccy,.str n.1.name,.str n.1.zc,.str n.1.zh]];.A λn_1=>.all (λ(x:Bool)=>True) λn_2=>.ite n_2 (.ex (q32 [.str v17.1]) λn_3=>let v10:=Tm.kon n_3;.A λn_4=>.ex (q35 [.i p.pay,.agg [.int .u8 2,.str v15,.str v13,.str v16,.int .u8 (Ex.kind v10),.str (Ex.rat v10),.str (Ex.name v10),.i (Ex.date v10),.sl (List.length (Ex.sub v10)) 5 (Ex.deep v10),.i 0,AV.nils,AV.nils]]) λn_5=>let v1:=Tm.at_ n_5.1 n_5.2;.A λn_6=>.ex v7 λn=>.A λn_7=>.ex (q34 [.ptr 0 0,(exD (Tm.fixg n.1.name n.2.2)),.str q] [.box [.i n.2.1,.str n.1.long,.str n.1.short,.str n.1.ccy,.str n.1.name,.str n.1.zc,.str n.1.zh]]) λn=>.A λn_8=>.ex (q35 [.i p.pay,(Con.conD (Tm.pay n.1 n.2.2.1 n.2.2.2))]) λn_9=>let v2:=Tm.at_ n_9.1 n_9.2;.A λn_10=>.R [.osl 4 12 0 2] [.box [.i n.2.1,.str n.1.long,.str n.1.short,.str n.1.ccy,.str n.1.name,.str n.1.zc,.str n.1.zh],.box v8,.box v14,.box [.int .u8 2,.str v15,.str v13,.str v16,.int .u8 (Ex.kind v10),.str (Ex.rat v10),.str (Ex.name v10),.i (Ex.date v10),.sl (List.length (Ex.sub v10)) 5 (Ex.deep v10),.i 0,.nils,.nils],.arr 2 12 (zj 12 [.int .u8 (Con.kind v1),.str (Con.src v1),.str (Con.dst v1),.str (Con.name v1),.int .u8 (Ex.kind (Con.x v1)),.str (Ex.rat (Con.x v1)),.str (Ex.name (Con.x v1)),.i (Ex.date (Con.x v1)),.sl (List.length (Ex.sub (Con.x v1))) 5 (Ex.exG (Ex.sub (Con.x v1))),.i (Con.date v1),.sl (List.length (Con.days v1)) 1 (Con.dayG (Con.days v1)),.sl (List.length (Con.sub v1)) 12 (Con.deep v1),.int .u8 (Con.kind v2),.str (Con.src v2),.str (Con.dst v2),.str (Con.name v2),.int .u8 (Ex.kind (Con.x v2)),.str (Ex.rat (Con.x v2)),.str (Ex.name (Con.x v2)),.i (Ex.date (Con.x v2)),.sl (List.length (Ex.sub (Con.x v2))) 5 (Ex.exG (Ex.sub (Con.x v2))),.i (Con.date v2),.sl (List.length (Con.days v2)) 1 (Con.dayG (Con.days v2)),.sl (List.length (Con.sub v2)) 12 (Con.deep v2)])]) (.ex (q32 [.str v17.1]) λn_3=>let v11:=Tm.kon n_3;.A λn_4=>.ex (q35 [.i p.pay,.agg [.int .u8 2,.str v15,.str v13,.str v16,.int .u8 (Ex.kind v11),.str (Ex.rat v11),.str (Ex.name v11),.i (Ex.date v11),.sl (List.length (Ex.sub v11)) 5 (Ex.deep v11),.i 0,AV.nils,AV.nils]]) λn_5=>let v3:=Tm.at_ n_5.1 n_5.2;.A λn_6=>.ex v7 λn=>.A λn_7=>.ex (q34 [.ptr 0 0,(exD (Tm.fixg n.1.name n.2.2)),.str q] [.box [.i n.2.1,.str n.1.long,.str n.1.short,.str n.1.ccy,.str n.1.name,.str n.1.zc,.str n.1.zh]]) λn=>.A λn_8=>.ex (q35 [.i p.pay,(Con.conD (Tm.pay n.1 n.2.2.1 n.2.2.2))]) λn_9=>let v4:=Tm.at_ n_9.1 n_9.2;.A λn_10=>.R [.osl 4 12 0 2] [.box [.i n.2.1,.str n.1.long,.str n.1.short,.str n.1.ccy,.str n.1.name,.str n.1.zc,.str n.1.zh],.box v8,.box v14,.box [.int .u8 2,.str v15,.str v13,.str v16,.int .u8 (Ex.kind v11),.str (Ex.rat v11),.str (Ex.name v11),.i (Ex.date v11),.sl (List.length (Ex.sub v11)) 5 (Ex.deep v11),.i 0,.nils,.nils],.arr 2 12 (zj 12 [.int .u8 (Con.kind v3),.str (Con.src v3),.str (Con.dst v3),.str (Con.name v3),.int .u8 (Ex.kind (Con.x v3)),.str (Ex.rat (Con.x v3)),.str (Ex.name (Con.x v3)),.i (Ex.date (Con.x v3)),.sl (List.length (Ex.sub (Con.x v3))) 5 (Ex.exG (Ex.sub (Con.x v3))),.i (Con.date v3),.sl (List.length (Con.days v3)) 1 (Con.dayG (Con.days v3)),.sl (List.length (Con.sub v3)) 12 (Con.deep v3),.int .u8 (Con.kind v4),.str (Con.src v4),.str (Con.dst v4),.str (Con.name v4),.int .u8 (Ex.kind (Con.x v4)),.str (Ex.rat (Con.x v4)),.str (Ex.name (Con.x v4)),.i (Ex.date (Con.x v4)),.sl (List.length (Ex.sub (Con.x v4))) 5 (Ex.exG (Ex.sub (Con.x v4))),.i (Con.date v4),.sl (List.length (Con.days v4)) 1 (Con.dayG (Con.days v4)),.sl (List.length (Con.sub v4)) 12 (Con.deep v4)])])) (.ex v9 λn=>let v18:=Tm.prod n.2.1 n.2.2.1 n.2.2.2;.A λn_1=>.ex (q32 [.str v18.1]) λn_2=>let v12:=Tm.kon n_2;.A λn_3=>.ex (q35 [.i p.pay,.agg [.int .u8 2,.str v15,.str v13,.str v16,.int .u8 (Ex.kind v12),.str (Ex.rat v12),.str (Ex.name v12),.i (Ex.date v12),.sl (List.length (Ex.sub v12)) 5 (Ex.deep v12),.i 0,AV.nils,AV.nils]]) λn_4=>let v5:=Tm.at_ n_4.1 n_4.2;.A λn_5=>.ex (q46 v19 [.box [.i v18.2,.str n.1.long,.str n.1.short,.str n.1.ccy,.str n.1.name,.str n.1.zc,.str n.1.zh]]) λn=>.A λn_6=>.ex (q34 [.ptr 0 0,(exD (Tm.fixg n.1.name n.2.2)),.str q] [.box [.i n.2.1,.str n.1.long,.str n.1.short,.str n.1.ccy,.str n.1.name,.str n.1.zc,.str n.1.zh]]) λn=>.A λn_7=>.ex (q35 [.i p.pay,(Con.conD (Tm.pay n.1 n.2.2.1 n.2.2.2))]) λn_8=>let v6:=Tm.at_ n_8.1 n_8.2;.A λn_9=>.R [.osl 4 12 0 2] [.box [.i n.2.1,.str n.1.long,.str n.1.short,.str n.1.ccy,.str n.1.name,.str n.1.zc,.str n.1.zh],.box v8,.box v14,.box [.int .u8 2,.str v15,.str v13,.str v16,.int .u8 (Ex.kind v12),.str (Ex.rat v12),.str (Ex.name v12),.i (Ex.date v12),.sl (List.length (Ex.sub v12)) 5 (Ex.deep v12),.i 0,.nils,.nils],.arr 2 12 (zj 12 [.int .u8 (Con.kind v5),.str (Con.src v5),.str (Con.dst v5),.str (Con.name v5),.int .u8 (Ex.kind (Con.x v5)),.str (Ex.rat (Con.x v5)),.str (Ex.name (Con.x v5)),.i (Ex.date (Con.x v5)),.sl (List.length (Ex.sub (Con.x v5))) 5 (Ex.exG (Ex.sub (Con.x v5))),.i (Con.date v5),.sl (List.length (Con.days v5)) 1 (Con.dayG (Con.days v5)),.sl (List.length (Con.sub v5)) 12 (Con.deep v5),.int .u8 (Con.kind v6),.str (Con.src v6),.str (Con.dst v6),.str (Con.name v6),.int .u8 (Ex.kind (Con.x v6)),.str (Ex.rat (Con.x v6)),.str (Ex.name (Con.x v6)),.i (Ex.date (Con.x v6)),.sl (List.length (Ex.sub (Con.x v6))) 5 (Ex.exG (Ex.sub (Con.x v6))),.i (Con.date v6),.sl (List.length (Con.days v6)) 1 (Con.dayG (Con.days v6)),.sl (List.length (Con.sub v6)) 12 (Con.deep v6)])])) ?_;simp only [q32,q34,q35,q45,q46,Tree.holds,zf];have h6:t.zc.length<=2500:=hf.2.2.2.2.1
 repeat' apply xE
 all_goals refine⟨(t,e,t.zc,q),⟨by simp,by simp [Deal.cells],trivial,by show t.zc.length<_; omega,by show q.length<_; omega⟩,⟨(),trivial⟩,λ_ _=> ?_⟩
 all_goals repeat' apply xE
 all_goals refine⟨(Tm.prod e t.zc q).1,⟨⟨rfl,trivial⟩,trivial⟩,⟨(),trivial⟩,λ_ _=> ?_⟩
 all_goals repeat' apply xE
 all_goals refine⟨(p.pay,.mk 2 t.long t.short t.ccy (Tm.kon (Tm.prod e t.zc q).1) 0 [] []),⟨⟨⟨rfl,rfl⟩,zob _,trivial⟩,trivial⟩,⟨(),trivial⟩,λ_ _=> ?_⟩
 all_goals repeat' apply xE
 all_goals refine⟨(t,(Tm.prod e t.zc q).2,p.fix),⟨by simp,by simp [Deal.cells],trivial,trivial⟩,⟨(),trivial⟩,λ_ _=> ?_⟩
 all_goals repeat' apply xE
 all_goals refine⟨(t,(Tm.prod e t.zc q).2,Tm.fixg t.name p.fix,q),⟨⟨⟨rfl,rfl⟩,QL _,rfl,trivial⟩,by simp [Deal.cells],trivial,trivial⟩,⟨(),trivial⟩,λ_ _=> ?_⟩
 all_goals repeat' apply xE
 all_goals refine⟨(p.pay,Tm.pay t (Tm.fixg t.name p.fix) q),⟨⟨⟨rfl,rfl⟩,j3 _,trivial⟩,trivial⟩,⟨(),trivial⟩,λ_ _=> ?_⟩
 all_goals repeat' apply xE
 all_goals exact RetR.keep [0,1] rfl rfl (by show ∀ j,j<2->_; decide) rfl hq ⟨rfl,rfl,Con.QO _ _⟩ (by simp [expH,expB,exp1,exp0,ren0,Deal.cells]) rfl
noncomputable def GCp1:=tb zbi (tb XO (tb K1 (tb UA tz)))
def capL(d:Deal)(fl:Bool)(p:Per)(q:L8):List Con:=[Tm.at_ p.pay (Tm.pay d (Tm.over d.zc (Tm.fixg d.name p.fix) fl) q)]
def zpm:Ctr:=ctrT false false (λx:OneA×Bool=>[.ptr 0 0,x.1.p.av,.str x.1.q,.ptr 1 0]) (λx=>[.box (x.1.d.cells x.1.e),.box [.bool x.2]]) (λx=>x.1.ok) (λ_ (_:Unit)=>True) (λx _=>(.sl 1 12 (Con.conG (capL x.1.d x.2 x.1.p x.1.q)),[.box (x.1.d.cells x.1.e),.box [.bool x.2]]))
theorem zmk:zd Tryz.prog 49 zpm:=by
 refine z7 (fn:=Tryz.f49) (c:=Tryz.f49.body.getD .skip) rfl rfl rfl (λh=>by cases h) λp hp O w0 I0 Q hl0 hq=> ?_
 obtain⟨⟨t,e,p,q⟩,fl⟩:=p;obtain⟨hf,h2⟩:=hp;replace hq:=hq () trivial;simp only at hq hf h2;refine zb.n GCp1.h [] (.ex (q46 [.ptr 0 0,.i p.fix] [.box [.i e,.str t.long,.str t.short,.str t.ccy,.str t.name,.str t.zc,.str t.zh]]) λn=>.A λn_1=>.ex (λ(x:Deal×Int×Ex×Bool)=>eqL [.ptr 0 0,(exD (Tm.fixg n.1.name n.2.2)),.bool fl] [.ptr 0 0,x.2.2.1.exA,.bool x.2.2.2]/\eqH [.box [.i n.2.1,.str n.1.long,.str n.1.short,.str n.1.ccy,.str n.1.name,.str n.1.zc,.str n.1.zh]] [.box [.i x.2.1,.str x.1.long,.str x.1.short,.str x.1.ccy,.str x.1.name,.str x.1.zc,.str x.1.zh]]/\1=1/\True) λn=>.A λn_2=>.ex (q34 [.ptr 0 0,(exD (Tm.over n.1.zc n.2.2.1 n.2.2.2)),.str q] [.box [.i n.2.1,.str n.1.long,.str n.1.short,.str n.1.ccy,.str n.1.name,.str n.1.zc,.str n.1.zh]]) λn=>.A λn_3=>.ex (q35 [.i p.pay,(Con.conD (Tm.pay n.1 n.2.2.1 n.2.2.2))]) λn_4=>.A λn_5=>.R [.osl 3 12 0 1] [.box [.i n.2.1,.str n.1.long,.str n.1.short,.str n.1.ccy,.str n.1.name,.str n.1.zc,.str n.1.zh],.box [.bool fl],.box [.i p.fix,.i p.pay,.str p.part],.arr 1 12 (zj 12 (Con.zg (Tm.at_ n_4.1 n_4.2)))]) ?_;simp only [q34,q35,q46,Tree.holds,zf]
 repeat' apply xE
 all_goals refine⟨(t,e,p.fix),⟨by simp,by simp [Deal.cells],trivial,trivial⟩,⟨(),trivial⟩,λ_ _=> ?_⟩
 all_goals repeat' apply xE
 all_goals refine⟨(t,e,Tm.fixg t.name p.fix,fl),⟨⟨⟨rfl,rfl⟩,QL _,rfl,trivial⟩,by simp [Deal.cells],trivial,trivial⟩,⟨(),trivial⟩,λ_ _=> ?_⟩
 all_goals repeat' apply xE
 all_goals refine⟨(t,e,Tm.over t.zc (Tm.fixg t.name p.fix) fl,q),⟨⟨⟨rfl,rfl⟩,QL _,rfl,trivial⟩,by simp [Deal.cells],trivial,trivial⟩,⟨(),trivial⟩,λ_ _=> ?_⟩
 all_goals repeat' apply xE
 all_goals refine⟨(p.pay,Tm.pay t (Tm.over t.zc (Tm.fixg t.name p.fix) fl) q),⟨⟨⟨rfl,rfl⟩,j3 _,trivial⟩,trivial⟩,⟨(),trivial⟩,λ_ _=> ?_⟩
 all_goals repeat' apply xE
 all_goals exact RetR.keep [0,1] rfl rfl (by show ∀ j,j<2->_; decide) rfl hq ⟨rfl,rfl,Con.QF _⟩ (by simp [expH,expB,exp1,exp0,ren0,Deal.cells]) rfl
end Go.Proofs.Tryz
end
section
namespace Go.Nov
open Go.Sx
namespace Tm
theorem Kn{f:Leg->Per->Leg}(hf:∀ s p,(f s p).acc.length<=s.acc.length+2/\Con.bigs (f s p).acc<=Con.bigs s.acc+30000/\Con.zq (f s p).acc<=Con.zq s.acc+4):∀ (l:List Per) (s:Leg),(l.foldl f s).acc.length<=s.acc.length+2*l.length/\Con.bigs (l.foldl f s).acc<=Con.bigs s.acc+30000*l.length/\Con.zq (l.foldl f s).acc<=Con.zq s.acc+4*l.length
 | [],s=>by simp
 | p::l,s=>by
  have h1:=Kn hf l (f s p);have h2:=hf s p;simp only [List.foldl_cons,List.length_cons];omega
theorem uB{f:Leg->Per->Leg}(hf:∀ s p,(f s p).acc.length<=s.acc.length+2/\Con.bigs (f s p).acc<=Con.bigs s.acc+30000/\Con.zq (f s p).acc<=Con.zq s.acc+4)(e:Int)(l:List Per)(i:Nat)(hl:l.length<=60):(zN f e l i).acc.length<=120/\Con.bigs (zN f e l i).acc<=1800000/\Con.zq (zN f e l i).acc<=240:=by
 have h:=Kn hf (l.take i) ⟨e,[]⟩;have h2:(l.take i).length<=60:=by rw [List.length_take]; omega
 unfold zN;simp only [List.length_nil,Con.bigs,Con.zq] at h;omega
theorem Vi{d:Deal}(h:fits d)(s:Leg)(p:Per):(legS d s p).acc.length<=s.acc.length+2/\Con.bigs (legS d s p).acc<=Con.bigs s.acc+30000/\Con.zq (legS d s p).acc<=Con.zq s.acc+4:=by
 have h':=h;obtain⟨h1,h2,h3,h4,h5,h6⟩:=h;have l1:(prod (prod s.e p.part d.zh).2 d.zc (prod s.e p.part d.zh).1).1.length<=2003:=xZ;have l2:(prod s.e p.part d.zh).1.length<=2003:=xZ;have:=X1 (x:=fixg d.name p.fix) (r:=(prod s.e p.part d.zh).1) h';simp only [legS,Wv,ZW,List.length_append,at_,kon,fixg,pay,opx,Con.big,Con.bigs,Con.nodes,Con.zq,Ex.size,Ex.zD,Ex.zH,Ex.jn,List.length_nil,List.length_cons] at this l1 l2 ⊢;omega
theorem zf3{k n:L8}{z:Int}{fl:Bool} : (over k (fixg n z) fl).size+(over k (fixg n z) fl).zH<=20+k.length+n.length:=by
 cases fl<;>simp only [over,opx,fixg,kon,Ex.size,Ex.zD,Ex.zH,Ex.jn,List.length_nil,List.length_cons,if_pos,Bool.false_eq_true,if_false]<;>omega
theorem Vd{d:Deal}{fl:Bool}(h:fits d)(s:Leg)(p:Per):(legC d fl s p).acc.length<=s.acc.length+2/\Con.bigs (legC d fl s p).acc<=Con.bigs s.acc+30000/\Con.zq (legC d fl s p).acc<=Con.zq s.acc+4:=by
 have h':=h;obtain⟨h1,h2,h3,h4,h5,h6⟩:=h;have l2:(prod s.e p.part d.zh).1.length<=2003:=xZ;have:=X1 (x:=over d.zc (fixg d.name p.fix) fl) (r:=(prod s.e p.part d.zh).1) h';have:=zf3 (k:=d.zc) (n:=d.name) (z:=p.fix) (fl:=fl);simp only [legC,Wv,ZW,List.length_append,at_,Con.bigs,Con.nodes,Con.zq,List.length_nil,List.length_cons];rw [show(Con.mk 6 [] [] [] (Ex.mk 0 [] [] 0 []) p.pay [] [pay d (over d.zc (fixg d.name p.fix) fl) (prod s.e p.part d.zh).1]).big=1+0+0+0+0+1+0+((pay d (over d.zc (fixg d.name p.fix) fl) (prod s.e p.part d.zh).1).big+0) by simp [Con.big,Con.bigs,Ex.size,Ex.zD,Ex.zH,Ex.jn]];simp only [pay,Con.nodes,Con.zq] at this ⊢;simp only [pay] at *
 omega
def resE(e:Int)(c:Con):Int:=if e=0 then c.errC else e
def Qu(f:Leg->Per->Leg)(d:Deal)(l:List Per):Leg:=zN f (ja (perE d l) l l.length) l l.length
def ku(f:Leg->Per->Leg)(d:Deal)(l:List Per):Int:=if 40<l.length then 4 else resE (Qu f d l).e (whole (Qu f d l).acc)
def wA(f:Leg->Per->Leg)(d:Deal)(l:List Per):Con:=if ku f d l=0 then whole (Qu f d l).acc else zero
end Tm
end Go.Nov
end
section
set_option maxRecDepth 100000
open Go Go.Sx Go.Proofs Go.Nov
namespace Go.Proofs.Tryz
attribute [local simp] eqKV eqA eqA0 eqH eqB eqL eqL0
noncomputable def K45:List Go.Sx.Item:=[.code (Tryz.f45.body.getD .skip)]
noncomputable def allS:Ctr:={ zaa with sinks:=true }
theorem zbd:zd Tryz.prog 54 allS:=zd.sink (c:=zaa) zr4
noncomputable def zcb:Ctr:={ zb8 with sinks:=true }
theorem J4:zd Tryz.prog 33 zcb:=zd.sink (c:=zb8) XB
structure PeA where
 d:Deal
 l:List Per
 fl:Bool
def PeA.ok(x:PeA):Prop:=Tm.fits x.d/\x.l.length<=60/\∀ i,i<x.l.length->(x.l.getD i Per.nil).part.length<=300
def dbox(d:Deal):Blk:=.box [.str d.long,.str d.short,.str d.ccy,.str d.name,.str d.zc,.str d.zh]
theorem KL(a:L8):eqG 1 1 (zj 1 [.str a]) (ratG [a]):=by
 intro j o hj ho;rcases(show j=0 by omega) with rfl;rcases(show o=0 by omega) with rfl;rfl
theorem Y5(l m:List Con):eqG (l.length+m.length) 12 (appG l.length (Con.conG l) (Con.conG m)) (Con.conG (l++m)):=by
 intro j o hj ho;unfold appG;by_cases h:j<l.length
 ·rw [if_pos h]; simp [Con.conG,List.getD,List.getElem?_append,h]
 ·rw [if_neg h]; simp [Con.conG,List.getD,List.getElem?_append,h]
def jY(d:Deal)(fl:Bool):Blk:=dbox d
def bCap(d:Deal)(fl:Bool):Blk:=.box [.bool fl]
def zP(d:Deal)(fl:Bool):Tm.Leg->Per->Tm.Leg:=Tm.legS d
def qq(d:Deal)(fl:Bool):Tm.Leg->Per->Tm.Leg:=Tm.legC d fl
theorem zk4{d:Deal}{fl:Bool}(h:Tm.fits d)(s:Tm.Leg)(p:Per):(zP d fl s p).acc.length<=s.acc.length+2/\Con.bigs (zP d fl s p).acc<=Con.bigs s.acc+30000/\Con.zq (zP d fl s p).acc<=Con.zq s.acc+4:=Tm.Vi h s p
theorem zmy{d:Deal}{fl:Bool}(h:Tm.fits d)(s:Tm.Leg)(p:Per):(qq d fl s p).acc.length<=s.acc.length+2/\Con.bigs (qq d fl s p).acc<=Con.bigs s.acc+30000/\Con.zq (qq d fl s p).acc<=Con.zq s.acc+4:=Tm.Vd h s p
noncomputable def zn1:=tb ZC (tb ZA (tb kP (tb Xd (tb ziw (tb zbd (tb J4 tz))))))
def xB(d:Deal)(fl:Bool)(e:Int):Heap:=[jY d fl,dbox d,.box (List.replicate 12 .undef),.dead,.box (d.cells e)]
def za7(l:List Per)(i:Nat):KV:=[(1,perS l),(2,.fn 46 [] [.ptr 0 0]),(3,.ptr 1 0),(6,.ptr 2 0),(8,.ptr 4 0),Z 11,Z 14,(23,perS l),(24,.i (l.length:Int)),(25,.i (i:Int)),Z 37,Z 38,Z 39,Z 50,Z 51,Z 52,Z 53,Z 54,Z 55,Z 56,Z 57,Z 66,Z 67,Z 68]
def ZG(l:List Per)(i:Nat):KV:=[(1,perS l),(2,.fn 46 [] [.ptr 0 0]),(3,.ptr 1 0),(6,.ptr 2 0),(8,.ptr 4 0),(11,.i (Tm.kS l i)),Z 14,Z 23,Z 24,Z 25,(37,perS l),(38,.i (l.length:Int)),(39,.i (i:Int)),Z 50,Z 51,Z 52,Z 53,Z 54,Z 55,Z 56,Z 57,Z 66,Z 67,Z 68]
def Wt(d:Deal)(fl:Bool)(e:Int)(acc:List Con):Heap:=[jY d fl,dbox d,.box (List.replicate 12 .undef),.dead,.box (d.cells e),.arr acc.length 12 (Con.conG acc)]
def Qa(l:List Per)(n i:Nat):KV:=[Z 1,(2,.fn 46 [] [.ptr 0 0]),(3,.ptr 1 0),(6,.ptr 2 0),(8,.ptr 4 0),Z 11,(14,.osl 5 12 0 n),Z 23,Z 24,Z 25,Z 37,Z 38,Z 39,Z 50,Z 51,Z 52,Z 53,Z 54,Z 55,Z 56,Z 57,(66,perS l),(67,.i (l.length:Int)),(68,.i (i:Int))]
def Zb:Ctr:=ctrT false false (λx:PeA=>[x.d.av,perS x.l,.fn 46 [] [.ptr 0 0]]) (λx=>[jY x.d x.fl]) (λx=>x.ok) (λ_ (_:Unit)=>True) (λx _=>(.tup [(Tm.wA (zP x.d x.fl) x.d x.l).conD,.i (Tm.ku (zP x.d x.fl) x.d x.l)],[jY x.d x.fl]))
abbrev q47(A:List AV)(x:List Con):Prop:=eqL A [.sl x.length 12 (Con.conG x)]/\x.length<1099511627776
theorem znj{O:Nat->Prop}{w0:World}{I0:List SE}{Hs:Nat->KV->Heap->Prop}{Q:AV×Heap->Prop}(d:Deal)(l:List Per)(fl:Bool)(e2:Int)(hf:Tm.fits d)(hl:l.length<=60)(hpt:∀ i,i<l.length->(l.getD i Per.nil).part.length<=300)
  (hq:Q (.tup [(if Tm.resE (Tm.zN (zP d fl) e2 l l.length).e (Tm.whole (Tm.zN (zP d fl) e2 l l.length).acc)=0 then Tm.whole (Tm.zN (zP d fl) e2 l l.length).acc else Tm.zero).conD,.i (Tm.resE (Tm.zN (zP d fl) e2 l l.length).e (Tm.whole (Tm.zN (zP d fl) e2 l l.length).acc))],[jY d fl])) :
  zb Tryz.prog Tryz.f45 O 1 w0 I0 Hs (RetR Zb 1 Q) (.code (.loop (lps (inside (inside K45 0) 0) 0).1)::(lps (inside (inside K45 0) 0) 0).2) (mk Tryz.f45.ntmps (Qa l 0 0) (Wt d fl e2 [])):=by
 refine zb.loop (ι:={i:Nat // i<=l.length}) (λi=>Qa l (Tm.zN (zP d fl) e2 l i.1).acc.length i.1) (λi=>Wt d fl (Tm.zN (zP d fl) e2 l i.1).e (Tm.zN (zP d fl) e2 l i.1).acc) (λi=>l.length - i.1) ⟨0,Nat.zero_le _⟩ 0 ?_ ?_ (by kernel_rfl)
 ·exact⟨by simp [Qa,perS,za,Tm.zN],by simp [Wt,jY,dbox,Deal.cells,List.replicate,Tm.zN,za],by kernel_rfl,by show 1<=6; decide⟩
 ·rintro⟨i,hil⟩;have hsz:=Tm.uB (f:=zP d fl) (zk4 hf) e2 l i hl;obtain⟨⟨e,acc⟩,hs⟩:∃ s,Tm.zN (zP d fl) e2 l i=s:=⟨_,rfl⟩;rw [hs] at hsz;simp only [hs];simp only at hsz;refine zb.n zn1.h [1,2,3,6,8,11,14,23,24,25,37,38,39,50,51,52,53,54,55,56,57,66,67,68] (let v10:=Deal.ccy d;let v9:=Deal.long d;let v8:=Deal.short d;let v4:=l.getD (i:Int).toNat Per.nil;let v3:List AV:=[.i e,.str v9,.str v8,.str v10,.str d.name,.str d.zc,.str d.zh];let v2:List AV:=[.int .u8 0,.str #[].toList,.str #[].toList,.str #[].toList,.int .u8 0,.str #[].toList,.str #[].toList,.i 0,.nils,.i 0,.nils,.nils];let v1:List AV:=[.str v9,.str v8,.str v10,.str d.name,.str d.zc,.str d.zh];.D ((i:Int)<l.length) (.side ((0:Int)<=i/\(i:Int)<l.length) (.ex (q45 [.ptr 0 0,.str v4.part,.str d.zh] [.box [.i e,.str v9,.str v8,.str v10,.str d.name,.str d.zc,.str d.zh]]) λn=>let v13:=Tm.prod n.2.1 n.2.2.1 n.2.2.2;.A λn_1=>.ex (λ(x:OneA)=>eqL [.ptr 0 0,.agg [.i v4.fix,.i v4.pay,.str v4.part],.str v13.1,.ptr 1 0] [.ptr 0 0,.agg [.i x.p.fix,.i x.p.pay,.str x.p.part],.str x.q,.ptr 1 0]/\eqH [.box [.i v13.2,.str n.1.long,.str n.1.short,.str n.1.ccy,.str n.1.name,.str n.1.zc,.str n.1.zh],.box [.str v9,.str v8,.str v10,.str d.name,.str d.zc,.str d.zh]] [.box [.i x.e,.str x.d.long,.str x.d.short,.str x.d.ccy,.str x.d.name,.str x.d.zc,.str x.d.zh],.box [.str x.d.long,.str x.d.short,.str x.d.ccy,.str x.d.name,.str x.d.zc,.str x.d.zh]]/\2=2/\OneA.ok x) λn=>let v12:=Deal.zc n.d;.A λn_2=>.side (0=0/\acc.length<=acc.length/\(acc.length+2)*184<=140737488355328) (.S (i+1) (.leaf (.back 0 [Z 1,(2,.fn 46 [] [.ptr 0 0]),(3,.ptr 1 0),(6,.ptr 2 0),(8,.ptr 4 0),Z 11,(14,.osl 5 12 0 (acc.length+2)),Z 23,Z 24,Z 25,Z 37,Z 38,Z 39,Z 50,Z 51,Z 52,Z 53,Z 54,Z 55,Z 56,Z 57,(66,.sl l.length 3 (perG l)),(67,.i l.length),(68,.i (i+1))] [.box [.str n.d.long,.str n.d.short,.str n.d.ccy,.str n.d.name,.str v12,.str n.d.zh],.box v1,.box [.undef,.undef,.undef,.undef,.undef,.undef,.undef,.undef,.undef,.undef,.undef,.undef],.dead,.box [.i (Prod.snd (Tm.prod n.e v12 n.q)),.str n.d.long,.str n.d.short,.str n.d.ccy,.str n.d.name,.str v12,.str n.d.zh],.arr (acc.length+2) 12 (appG acc.length (Con.conG acc) (Con.conG (V4 n.d n.e n.p n.q))),.box [.i v4.fix,.i v4.pay,.str v4.part]]))))) (.ex (q47 [.sl acc.length 12 (zi (Con.conG acc) 0)]) λn=>let v7:=Tm.whole n;let v11:=q36 [v7.conD];let v6:zY:=.ret [.agg v2,.i e] [.box v1,.box v1,.box v2,.dead,.box v3,.dead,.box v7.zg,.box v2];.A λn_1=>.D (e=0) (.ex (q31 [v7.conD]) λn_2=>.all (λ(r:Int)=>r=Con.errC n_2) λn_3=>let v5:List AV:=[.i n_3,.str v9,.str v8,.str v10,.str d.name,.str d.zc,.str d.zh];.D (e=0) (.N (n_3=0) (.R [.agg v2,.i n_3] [.box v1,.box v1,.box v2,.dead,.box v5,.dead,.box v7.zg,.box v2]) (.ex v11 λn_4=>.A λn_5=>.R [n_4.conD,.i 0] [.box v1,.box v1,.box n_4.zg,.dead,.box v5,.dead,.box v7.zg,.box n_4.zg])) (.N (e=0) (.leaf v6) (.ex v11 λn_4=>.A λn_5=>.R [n_4.conD,.i 0] [.box v1,.box v1,.box n_4.zg,.dead,.box v3,.dead,.box v7.zg,.box n_4.zg]))) (.N (e=0) (.leaf v6) (.ex v11 λn_2=>.A λn_3=>.R [n_2.conD,.i 0] [.box v1,.box v1,.box n_2.zg,.dead,.box v3,.dead,.box v7.zg,.box n_2.zg])))) ?_;simp only [q31,q36,q45,q47,Tree.holds,zf,inR,lo,hi,Int.toNat_natCast];refine⟨λhlt=> ?_,λhge=> ?_⟩
  ·have hlt:i<l.length:=by have:=of_decide_eq_true hlt; omega
   have hpi:=hpt i hlt;have h6:d.zh.length<=2500:=hf.2.2.2.2.2;have hss:=Tm.Jm (f:=zP d fl) (e:=e2) hlt;rw [hs] at hss;replace hss:Tm.zN (zP d fl) e2 l (i+1)=⟨(Tm.prod (Tm.prod e (l.getD i Per.nil).part d.zh).2 d.zc (Tm.prod e (l.getD i Per.nil).part d.zh).1).2,acc++V4 d (Tm.prod e (l.getD i Per.nil).part d.zh).2 (l.getD i Per.nil) (Tm.prod e (l.getD i Per.nil).part d.zh).1⟩:=hss;refine⟨by omega,λ_=> ?_⟩;refine⟨(d,e,(l.getD i Per.nil).part,d.zh),⟨by simp,by simp [Deal.cells],trivial,by show(l.getD i Per.nil).part.length<_; omega,by show d.zh.length<_; omega⟩,⟨(),trivial⟩,λ_ _=> ?_⟩;refine⟨⟨d,(Tm.prod e (l.getD i Per.nil).part d.zh).2,(l.getD i Per.nil),(Tm.prod e (l.getD i Per.nil).part d.zh).1⟩,⟨⟨⟨rfl,rfl⟩,⟨⟨rfl,rfl⟩,⟨rfl,rfl⟩,rfl,trivial⟩,rfl,⟨rfl,rfl⟩,trivial⟩,by simp [Deal.cells],trivial,hf,by have:=Tm.xZ (e:=e) (a:=(l.getD i Per.nil).part) (b:=d.zh); show(Tm.prod e (l.getD i Per.nil).part d.zh).1.length<_; omega⟩,⟨(),trivial⟩,λ_ _=> ?_⟩;refine⟨⟨trivial,Nat.le_refl _,by omega⟩,λ_=>⟨by omega,λ_=> ?_⟩⟩;rw [if_pos trivial];refine⟨⟨i+1,hlt⟩,by show l.length - (i+1)<l.length - i; omega,?_,?_,by kernel_rfl,by show 1<=6; decide⟩
   ·rw [hss]; simp [Qa,perS,za,V4]
   ·rw [hss];refine⟨by simp [jY,dbox],by simp [dbox],by simp [List.replicate],trivial,by simp [Deal.cells],⟨by simp [V4],rfl,Y5 acc (V4 d (Tm.prod e (l.getD i Per.nil).part d.zh).2 (l.getD i Per.nil) (Tm.prod e (l.getD i Per.nil).part d.zh).1)⟩,trivial⟩
  ·have hge:i=l.length:=by have:=of_decide_eq_false hge; omega
   subst hge;rw [hs] at hq;simp only at hq;have hw:=Tm.ur acc;obtain⟨c,hc⟩:∃ c,Tm.whole acc=c:=⟨_,rfl⟩;rw [hc] at hq hw;refine⟨acc,⟨⟨⟨rfl,rfl,uA _ _ _⟩,trivial⟩,by omega⟩,⟨(),trivial⟩,λ_ _=> ?_⟩;simp only [hc];unfold Tm.resE at hq;refine⟨λh=> ?_,λh=> ?_⟩
   ·rw [if_pos (of_decide_eq_true h)] at hq;refine⟨c,⟨⟨j3 c,trivial⟩,by omega,by omega⟩,⟨_,rfl⟩,?_⟩;rintro _ rfl;refine⟨λ_=>⟨λh1=> ?_,λh1=> ?_⟩,λh1=>absurd (h.symm.trans h1) (by decide)⟩
    ·rw [if_neg (by simpa using h1)] at hq;exact RetR.keep [0] rfl rfl (by show ∀ j,j<1->_; decide) rfl hq zero_eq (by simp [expH,expB,exp1,exp0,ren0,jY,dbox]) rfl
    ·have h1:c.errC=0:=by simpa using h1
     rw [if_pos h1,h1] at hq;refine⟨c,⟨⟨j3 c,trivial⟩,by omega⟩,⟨(),trivial⟩,λ_ _=> ?_⟩;exact RetR.xP [0] rfl rfl (by show ∀ j,j<1->_; decide) rfl hq (LeA.refl _) (by simp [expH,expB,exp1,exp0,ren0,jY,dbox]) rfl
   ·have h:=of_decide_eq_false h;rw [if_neg h,if_neg h] at hq;refine⟨λ_=> ?_,λh1=>absurd h1 (by simp [h])⟩;exact RetR.keep [0] rfl rfl (by show ∀ j,j<1->_; decide) rfl hq zero_eq (by simp [expH,expB,exp1,exp0,ren0,jY,dbox]) rfl
theorem zmh{O:Nat->Prop}{w0:World}{I0:List SE}{Hs:Nat->KV->Heap->Prop}{Q:AV×Heap->Prop}(d:Deal)(l:List Per)(fl:Bool)(e1:Int)(hf:Tm.fits d)(hl:l.length<=60)(hpt:∀ i,i<l.length->(l.getD i Per.nil).part.length<=300)
  (hq:Q (.tup [(if Tm.resE (Tm.zN (zP d fl) (Tm.ja e1 l l.length) l l.length).e (Tm.whole (Tm.zN (zP d fl) (Tm.ja e1 l l.length) l l.length).acc)=0 then Tm.whole (Tm.zN (zP d fl) (Tm.ja e1 l l.length) l l.length).acc else Tm.zero).conD,.i (Tm.resE (Tm.zN (zP d fl) (Tm.ja e1 l l.length) l l.length).e (Tm.whole (Tm.zN (zP d fl) (Tm.ja e1 l l.length) l l.length).acc))],[jY d fl])) :
  zb Tryz.prog Tryz.f45 O 1 w0 I0 Hs (RetR Zb 1 Q) (.code (.loop (lps (inside K45 0) 0).1)::(lps (inside K45 0) 0).2) (mk Tryz.f45.ntmps (ZG l 0) (xB d fl e1)):=by
 refine zb.loop (ι:={i:Nat // i<=l.length}) (λi=>ZG l i.1) (λi=>xB d fl (Tm.ja e1 l i.1)) (λi=>l.length - i.1) ⟨0,Nat.zero_le _⟩ 0 ?_ ?_ (by kernel_rfl)
 ·refine⟨by simp [ZG,perS,za],?_,by kernel_rfl,by show 1<=5; decide⟩;have:Tm.ja e1 l 0=e1:=by unfold Tm.ja; split<;>simp_all [Tm.badT]
  simp [xB,jY,dbox,Deal.cells,this,List.replicate]
 ·rintro⟨i,hil⟩;obtain⟨e',he'⟩:∃ e',Tm.ja e1 l i=e':=⟨_,rfl⟩;simp only [he'];refine zb.n zn1.h [1,2,3,6,8,11,14,23,24,25,37,38,39,50,51,52,53,54,55,56,57,66,67,68] (let v9:=lps (inside (inside K45 0) 0) 0;let v7:=inR .i64 (i+1);let v6:List AV:=[.i e',.str d.long,.str d.short,.str d.ccy,.str d.name,.str d.zc,.str d.zh];let v5:List AV:=[.undef,.undef,.undef,.undef,.undef,.undef,.undef,.undef,.undef,.undef,.undef,.undef];let v4:=l.getD (i:Int).toNat Per.nil;let v8:List AV:=[.i v4.fix,.i v4.pay,.str v4.part];let v3:List (Nat×AV):=[(1,.sl l.length 3 (perG l)),(2,.fn 46 [] [.ptr 0 0]),(3,.ptr 1 0),(6,.ptr 2 0),(8,.ptr 4 0),(11,.i v4.pay),Z 14,Z 23,Z 24,Z 25,(37,.sl l.length 3 (perG l)),(38,.i l.length),(39,.i (i+1)),Z 50,Z 51,Z 52,Z 53,Z 54,Z 55,Z 56,Z 57,Z 66,Z 67,Z 68];let v2:List AV:=[.str d.long,.str d.short,.str d.ccy,.str d.name,.str d.zc,.str d.zh];let v1:zY:=.back 0 v3 [.box v2,.box v2,.box v5,.dead,.box v6,.box v8];.D ((i:Int)<l.length) (.side ((0:Int)<=i/\(i:Int)<l.length) (.ite (bif decide (Per.pay v4 <Per.fix v4) then true else bif decide ((0:Int)<i) then decide (Per.pay v4 <=Tm.kS l i) else false) (.D (e'=(0:Int)) (.side v7 (.leaf (.back 0 v3 [.box v2,.box v2,.box v5,.dead,.box [.i 40,.str d.long,.str d.short,.str d.ccy,.str d.name,.str d.zc,.str d.zh],.box v8]))) (.side v7 (.leaf v1))) (.side v7 (.leaf v1)))) (.leaf (.loop v9.1 v9.2 [(1,.sl l.length 3 (perG l)),(2,.fn 46 [] [.ptr 0 0]),(3,.ptr 1 0),(6,.ptr 2 0),(8,.ptr 4 0),(11,.i (Tm.kS l i)),(14,.nils),Z 23,Z 24,Z 25,(37,.sl l.length 3 (perG l)),(38,.i l.length),(39,.i i),Z 50,Z 51,Z 52,Z 53,Z 54,Z 55,Z 56,Z 57,(66,.sl l.length 3 (perG l)),(67,.i l.length),(68,.i 0)] [.box v2,.box v2,.box v5,.dead,.box v6]))) ?_;simp only [Tree.holds,zf,inR,lo,hi,Int.toNat_natCast];refine⟨λhlt=> ?_,λhge=> ?_⟩
  ·have hlt:i<l.length:=by have:=of_decide_eq_true hlt; omega
   have hs:=Tm.Jr (e:=e1) (l:=l) (i:=i) rfl;rw [he'] at hs;have hp:=Tm.WD l i;refine⟨by omega,λ_=>⟨λhc=>⟨λhz=>⟨by omega,λ_=> ?_⟩,λhz=>⟨by omega,λ_=> ?_⟩⟩,λhc=>⟨by omega,λ_=> ?_⟩⟩⟩
   all_goals
    rw [if_pos trivial];refine⟨⟨i+1,hlt⟩,by show l.length - (i+1)<l.length - i; omega,by simp [ZG,perS,za,hp],?_,by kernel_rfl,by show 1<=5; decide⟩
   ·rw [if_pos (by simpa using hc),if_pos (of_decide_eq_true hz)] at hs;simp [xB,jY,dbox,Deal.cells,hs,List.replicate]
   ·rw [if_pos (by simpa using hc),if_neg (of_decide_eq_false hz)] at hs;simp [xB,jY,dbox,Deal.cells,hs,List.replicate]
   ·rw [if_neg (by simp at hc ⊢; omega)] at hs;simp [xB,jY,dbox,Deal.cells,hs,List.replicate]
  ·have hge:i=l.length:=by have:=of_decide_eq_false hge; omega
   subst hge;rw [he'] at hq;refine zb.bear 14 12 (Con.conG []) rfl (by decide) (by kernel_rfl) ?_;refine zb.weak (S:=Qa l 0 0) (H:=Wt d fl e' []) ⟨by simp [Qa,xD,perS,za],by simp [Wt,jY,dbox,Deal.cells,List.replicate,za],by kernel_rfl,by show 1<=6; decide⟩ ?_;exact znj d l fl e' hf hl hpt hq
theorem UX:zd Tryz.prog 45 Zb:=by
 refine z7 (fn:=Tryz.f45) (c:=Tryz.f45.body.getD .skip) rfl rfl rfl (λh=>by cases h) λp hp O w0 I0 Q hl0 hq=> ?_
 obtain⟨d,l,fl⟩:=p;replace hq:=hq () trivial;obtain⟨hf,hl,hpt⟩:=hp;simp only at hf hl hpt hq;unfold Tm.wA Tm.ku at hq;refine zb.n zn1.h [1,2,3,6,8,11,14,23,24,25,37,38,39,50,51,52,53,54,55,56,57,66,67,68] (let v2:List AV:=[.int .u8 0,.str #[].toList,.str #[].toList,.str #[].toList,.int .u8 0,.str #[].toList,.str #[].toList,.i 0,.nils,.i 0,.nils,.nils];let v1:List AV:=[.str d.long,.str d.short,.str d.ccy,.str d.name,.str d.zc,.str d.zh];.D ((40:Int)<l.length) (.R [.agg v2,.i 4] [.box v1,.box v1,.box v2]) (.ex (λ(x:Deal×Int×List L8)=>eqL [.ptr 0 0,.osl 1 1 0 2] [.ptr 0 0,.osl 1 1 0 x.2.2.length]/\eqH [.box [.i 0,.str d.long,.str d.short,.str d.ccy,.str d.name,.str d.zc,.str d.zh],.arr 2 1 (zj 1 [.str d.zc,.str d.zh])] [.box [.i x.2.1,.str x.1.long,.str x.1.short,.str x.1.ccy,.str x.1.name,.str x.1.zc,.str x.1.zh],.arr x.2.2.length 1 (ratG x.2.2)]/\2=2/\x.2.2.length<1099511627776/\∀ (r:L8),r∈x.2.2->r.length<1099511627776) λn=>.A λn_1=>.leaf (.loop (lps K45 0).1 (lps K45 0).2 [(1,.sl l.length 3 (perG l)),(2,.fn 46 [] [.ptr 0 0]),(3,.ptr 1 0),(6,.ptr 2 0),(8,.ptr 4 0),Z 11,Z 14,(23,.sl l.length 3 (perG l)),(24,.i l.length),(25,.i 0),Z 37,Z 38,Z 39,Z 50,Z 51,Z 52,Z 53,Z 54,Z 55,Z 56,Z 57,Z 66,Z 67,Z 68] [.box v1,.box v1,.box v2,.box v1,.box [.i (Tm.first n.2.1 n.2.2),.str n.1.long,.str n.1.short,.str n.1.ccy,.str n.1.name,.str n.1.zc,.str n.1.zh],.arr n.2.2.length 1 (ratG n.2.2)]))) ?_;simp only [Tree.holds,zf];refine⟨λh=> ?_,λh=> ?_⟩
 ·have h40:=of_decide_eq_true h;simp only [if_pos (show 40<l.length by omega)] at hq;rw [if_neg (show ¬ (4:Int)=0 by decide)] at hq;exact RetR.keep [0] rfl rfl (by show ∀ j,j<1->_; decide) rfl hq zero_eq (by simp [expH,expB,exp1,exp0,ren0,jY,dbox]) rfl
 have h40:=of_decide_eq_false h;simp only [if_neg (show ¬ 40<l.length by omega)] at hq;refine⟨(d,0,[d.zc,d.zh]),⟨by simp,by simp [Deal.cells,K4],trivial,by show 2<2^40; decide,uE hf⟩,⟨(),trivial⟩,λ_ _=> ?_⟩;unfold Tm.Qu Tm.perE at hq;obtain⟨e0,he0⟩:∃ e,Tm.first 0 [d.zc,d.zh]=e:=⟨_,rfl⟩;rw [he0] at hq;simp only [he0];refine zb.loop (ι:={i:Nat // i<=l.length}) (λi=>za7 l i.1) (λi=>xB d fl (Tm.first e0 ((l.map Per.part).take i.1))) (λi=>l.length - i.1) ⟨0,Nat.zero_le _⟩ 0 ?_ ?_ (by kernel_rfl)
 ·exact⟨by simp [za7,perS,za],by simp [xB,jY,dbox,Deal.cells,Tm.first,List.replicate],by kernel_rfl,by show 1<=5; decide⟩
 ·rintro⟨i,hil⟩;obtain⟨e',he'⟩:∃ e',Tm.first e0 ((l.map Per.part).take i)=e':=⟨_,rfl⟩;simp only [he'];refine zb.n zn1.h [1,2,3,6,8,11,14,23,24,25,37,38,39,50,51,52,53,54,55,56,57,66,67,68] (let v3:List AV:=[.undef,.undef,.undef,.undef,.undef,.undef,.undef,.undef,.undef,.undef,.undef,.undef];let v2:=l.getD (i:Int).toNat Per.nil;let v1:List AV:=[.str d.long,.str d.short,.str d.ccy,.str d.name,.str d.zc,.str d.zh];.D ((i:Int)<l.length) (.side ((0:Int)<=i/\(i:Int)<l.length) (.ex (λ(x:Deal×Int×List L8)=>eqL [.ptr 0 0,.osl 1 1 0 1] [.ptr 0 0,.osl 1 1 0 x.2.2.length]/\eqH [.box [.i e',.str d.long,.str d.short,.str d.ccy,.str d.name,.str d.zc,.str d.zh],.arr 1 1 (zj 1 [.str v2.part])] [.box [.i x.2.1,.str x.1.long,.str x.1.short,.str x.1.ccy,.str x.1.name,.str x.1.zc,.str x.1.zh],.arr x.2.2.length 1 (ratG x.2.2)]/\2=2/\x.2.2.length<1099511627776/\∀ (r:L8),r∈x.2.2->r.length<1099511627776) λn=>.A λn_1=>.S (i+1) (.leaf (.back 0 [(1,.sl l.length 3 (perG l)),(2,.fn 46 [] [.ptr 0 0]),(3,.ptr 1 0),(6,.ptr 2 0),(8,.ptr 4 0),Z 11,Z 14,(23,.sl l.length 3 (perG l)),(24,.i l.length),(25,.i (i+1)),Z 37,Z 38,Z 39,Z 50,Z 51,Z 52,Z 53,Z 54,Z 55,Z 56,Z 57,Z 66,Z 67,Z 68] [.box v1,.box v1,.box v3,.dead,.box [.i (Tm.first n.2.1 n.2.2),.str n.1.long,.str n.1.short,.str n.1.ccy,.str n.1.name,.str n.1.zc,.str n.1.zh],.box [.i v2.fix,.i v2.pay,.str v2.part],.arr n.2.2.length 1 (ratG n.2.2)])))) (.leaf (.loop (lps (inside K45 0) 0).1 (lps (inside K45 0) 0).2 [(1,.sl l.length 3 (perG l)),(2,.fn 46 [] [.ptr 0 0]),(3,.ptr 1 0),(6,.ptr 2 0),(8,.ptr 4 0),(11,.i (-9223372036854775808:Int)),Z 14,(23,.sl l.length 3 (perG l)),(24,.i l.length),(25,.i i),(37,.sl l.length 3 (perG l)),(38,.i l.length),(39,.i 0),Z 50,Z 51,Z 52,Z 53,Z 54,Z 55,Z 56,Z 57,Z 66,Z 67,Z 68] [.box v1,.box v1,.box v3,.dead,.box [.i e',.str d.long,.str d.short,.str d.ccy,.str d.name,.str d.zc,.str d.zh]]))) ?_;simp only [Tree.holds,zf,inR,lo,hi,Int.toNat_natCast];refine⟨λhlt=> ?_,λhge=> ?_⟩
  ·have hlt:i<l.length:=by have:=of_decide_eq_true hlt; omega
   have hpi:=hpt i hlt;have ht:=Tm.xp (e:=e0) (l:=l.map Per.part) (i:=i) (by simpa using hlt);rw [he'] at ht;have hg:(l.map Per.part).getD i []=(l.getD i Per.nil).part:=by simp [List.getD,hlt]
   rw [hg] at ht;have ht2:Tm.first e' [(l.getD i Per.nil).part]=Tm.first e0 ((l.map Per.part).take (i+1)):=by rw [ht]; rfl
   refine⟨by omega,λ_=>⟨(d,e',[(l.getD i Per.nil).part]),⟨by simp,by simp [Deal.cells,KL],trivial,by show 1<2^40; decide,λr hr=>by rw [List.mem_singleton.1 hr]; omega⟩,⟨(),trivial⟩,λ_ _=>⟨by omega,λ_=> ?_⟩⟩⟩;rw [if_pos trivial];exact⟨⟨i+1,hlt⟩,by show l.length - (i+1)<l.length - i; omega,by simp [za7,perS,za],by show eqH _ (xB d fl (Tm.first e0 ((l.map Per.part).take (i+1)))); rw [<- ht2]; simp [xB,jY,dbox,Deal.cells,List.replicate],by kernel_rfl,by show 1<=5; decide⟩
  ·have hge:i=l.length:=by have:=of_decide_eq_false hge; omega
   subst hge;have hz:(l.map Per.part).take l.length=l.map Per.part:=by rw [<- List.length_map (f:=Per.part),List.take_length]
   rw [hz] at he';rw [he'] at hq;refine zb.weak (S:=ZG l 0) (H:=xB d fl e') ⟨by simp [ZG,perS,za,Tm.kS],by simp [xB,jY,dbox,Deal.cells,List.replicate],by kernel_rfl,by show 1<=5; decide⟩ ?_;exact zmh d l fl e' hf hl hpt hq
noncomputable def zpr:=tb ZC (tb ZA (tb kP (tb Xd (tb zmk (tb zbd (tb J4 tz))))))
def HCap(d:Deal)(fl:Bool)(e:Int):Heap:=[bCap d fl,dbox d,.box (List.replicate 12 .undef),.dead,.box (d.cells e)]
def zjs(l:List Per)(i:Nat):KV:=[(1,perS l),(2,.fn 49 [] [.ptr 0 0]),(3,.ptr 1 0),(6,.ptr 2 0),(8,.ptr 4 0),Z 11,Z 14,(23,perS l),(24,.i (l.length:Int)),(25,.i (i:Int)),Z 37,Z 38,Z 39,Z 50,Z 51,Z 52,Z 53,Z 54,Z 55,Z 56,Z 57,Z 66,Z 67,Z 68]
def Vh(l:List Per)(i:Nat):KV:=[(1,perS l),(2,.fn 49 [] [.ptr 0 0]),(3,.ptr 1 0),(6,.ptr 2 0),(8,.ptr 4 0),(11,.i (Tm.kS l i)),Z 14,Z 23,Z 24,Z 25,(37,perS l),(38,.i (l.length:Int)),(39,.i (i:Int)),Z 50,Z 51,Z 52,Z 53,Z 54,Z 55,Z 56,Z 57,Z 66,Z 67,Z 68]
def YG(d:Deal)(fl:Bool)(e:Int)(acc:List Con):Heap:=[bCap d fl,dbox d,.box (List.replicate 12 .undef),.dead,.box (d.cells e),.arr acc.length 12 (Con.conG acc)]
def Kf(l:List Per)(n i:Nat):KV:=[Z 1,(2,.fn 49 [] [.ptr 0 0]),(3,.ptr 1 0),(6,.ptr 2 0),(8,.ptr 4 0),Z 11,(14,.osl 5 12 0 n),Z 23,Z 24,Z 25,Z 37,Z 38,Z 39,Z 50,Z 51,Z 52,Z 53,Z 54,Z 55,Z 56,Z 57,(66,perS l),(67,.i (l.length:Int)),(68,.i (i:Int))]
def QS:Ctr:=ctrT false false (λx:PeA=>[x.d.av,perS x.l,.fn 49 [] [.ptr 0 0]]) (λx=>[bCap x.d x.fl]) (λx=>x.ok) (λ_ (_:Unit)=>True) (λx _=>(.tup [(Tm.wA (qq x.d x.fl) x.d x.l).conD,.i (Tm.ku (qq x.d x.fl) x.d x.l)],[bCap x.d x.fl]))
theorem zra{O:Nat->Prop}{w0:World}{I0:List SE}{Hs:Nat->KV->Heap->Prop}{Q:AV×Heap->Prop}(d:Deal)(l:List Per)(fl:Bool)(e2:Int)(hf:Tm.fits d)(hl:l.length<=60)(hpt:∀ i,i<l.length->(l.getD i Per.nil).part.length<=300)
  (hq:Q (.tup [(if Tm.resE (Tm.zN (qq d fl) e2 l l.length).e (Tm.whole (Tm.zN (qq d fl) e2 l l.length).acc)=0 then Tm.whole (Tm.zN (qq d fl) e2 l l.length).acc else Tm.zero).conD,.i (Tm.resE (Tm.zN (qq d fl) e2 l l.length).e (Tm.whole (Tm.zN (qq d fl) e2 l l.length).acc))],[bCap d fl])) :
  zb Tryz.prog Tryz.f45 O 1 w0 I0 Hs (RetR QS 1 Q) (.code (.loop (lps (inside (inside K45 0) 0) 0).1)::(lps (inside (inside K45 0) 0) 0).2) (mk Tryz.f45.ntmps (Kf l 0 0) (YG d fl e2 [])):=by
 refine zb.loop (ι:={i:Nat // i<=l.length}) (λi=>Kf l (Tm.zN (qq d fl) e2 l i.1).acc.length i.1) (λi=>YG d fl (Tm.zN (qq d fl) e2 l i.1).e (Tm.zN (qq d fl) e2 l i.1).acc) (λi=>l.length - i.1) ⟨0,Nat.zero_le _⟩ 0 ?_ ?_ (by kernel_rfl)
 ·exact⟨by simp [Kf,perS,za,Tm.zN],by simp [YG,bCap,dbox,Deal.cells,List.replicate,Tm.zN,za],by kernel_rfl,by show 1<=6; decide⟩
 ·rintro⟨i,hil⟩;have hsz:=Tm.uB (f:=qq d fl) (zmy hf) e2 l i hl;obtain⟨⟨e,acc⟩,hs⟩:∃ s,Tm.zN (qq d fl) e2 l i=s:=⟨_,rfl⟩;rw [hs] at hsz;simp only [hs];simp only at hsz;refine zb.n zpr.h [1,2,3,6,8,11,14,23,24,25,37,38,39,50,51,52,53,54,55,56,57,66,67,68] (let v14:=Deal.ccy d;let v12:=Deal.long d;let v11:=Deal.short d;let v4:=l.getD (i:Int).toNat Per.nil;let v3:List AV:=[.i e,.str v12,.str v11,.str v14,.str d.name,.str d.zc,.str d.zh];let v2:List AV:=[.str v12,.str v11,.str v14,.str d.name,.str d.zc,.str d.zh];let v1:List AV:=[.int .u8 0,.str #[].toList,.str #[].toList,.str #[].toList,.int .u8 0,.str #[].toList,.str #[].toList,.i 0,.nils,.i 0,.nils,.nils];.D ((i:Int)<l.length) (.side ((0:Int)<=i/\(i:Int)<l.length) (.ex (q45 [.ptr 0 0,.str v4.part,.str d.zh] [.box [.i e,.str v12,.str v11,.str v14,.str d.name,.str d.zc,.str d.zh]]) λn=>let v13:=Tm.prod n.2.1 n.2.2.1 n.2.2.2;.A λn_1=>.ex (λ(x:OneA×Bool)=>let v9:=OneA.d x.1;eqL [.ptr 0 0,.agg [.i v4.fix,.i v4.pay,.str v4.part],.str v13.1,.ptr 1 0] [.ptr 0 0,.agg [.i x.1.p.fix,.i x.1.p.pay,.str x.1.p.part],.str x.1.q,.ptr 1 0]/\eqH [.box [.i v13.2,.str n.1.long,.str n.1.short,.str n.1.ccy,.str n.1.name,.str n.1.zc,.str n.1.zh],.box [.bool fl]] [.box [.i x.1.e,.str v9.long,.str v9.short,.str v9.ccy,.str v9.name,.str v9.zc,.str v9.zh],.box [.bool x.2]]/\2=2/\OneA.ok x.1) λn=>let v8:=OneA.d n.1;.A λn_2=>.side (0=0/\acc.length<=acc.length/\(acc.length+1)*184<=140737488355328) (.S (i+1) (.leaf (.back 0 [Z 1,(2,.fn 49 [] [.ptr 0 0]),(3,.ptr 1 0),(6,.ptr 2 0),(8,.ptr 4 0),Z 11,(14,.osl 5 12 0 (acc.length+1)),Z 23,Z 24,Z 25,Z 37,Z 38,Z 39,Z 50,Z 51,Z 52,Z 53,Z 54,Z 55,Z 56,Z 57,(66,.sl l.length 3 (perG l)),(67,.i l.length),(68,.i (i+1))] [.box [.bool n.2],.box v2,.box [.undef,.undef,.undef,.undef,.undef,.undef,.undef,.undef,.undef,.undef,.undef,.undef],.dead,.box [.i n.1.e,.str v8.long,.str v8.short,.str v8.ccy,.str v8.name,.str v8.zc,.str v8.zh],.arr (acc.length+1) 12 (appG acc.length (Con.conG acc) (Con.conG (capL v8 n.2 n.1.p n.1.q))),.box [.i v4.fix,.i v4.pay,.str v4.part]]))))) (.ex (q47 [.sl acc.length 12 (zi (Con.conG acc) 0)]) λn=>let v7:=Tm.whole n;let v10:=q36 [v7.conD];let v5:zY:=.ret [.agg v1,.i e] [.box [.bool fl],.box v2,.box v1,.dead,.box v3,.dead,.box v7.zg,.box v1];.A λn_1=>.D (e=0) (.ex (q31 [v7.conD]) λn_2=>.all (λ(r:Int)=>r=Con.errC n_2) λn_3=>let v6:List AV:=[.i n_3,.str v12,.str v11,.str v14,.str d.name,.str d.zc,.str d.zh];.D (e=0) (.N (n_3=0) (.R [.agg v1,.i n_3] [.box [.bool fl],.box v2,.box v1,.dead,.box v6,.dead,.box v7.zg,.box v1]) (.ex v10 λn_4=>.A λn_5=>.R [n_4.conD,.i 0] [.box [.bool fl],.box v2,.box n_4.zg,.dead,.box v6,.dead,.box v7.zg,.box n_4.zg])) (.N (e=0) (.leaf v5) (.ex v10 λn_4=>.A λn_5=>.R [n_4.conD,.i 0] [.box [.bool fl],.box v2,.box n_4.zg,.dead,.box v3,.dead,.box v7.zg,.box n_4.zg]))) (.N (e=0) (.leaf v5) (.ex v10 λn_2=>.A λn_3=>.R [n_2.conD,.i 0] [.box [.bool fl],.box v2,.box n_2.zg,.dead,.box v3,.dead,.box v7.zg,.box n_2.zg])))) ?_;simp only [q31,q36,q45,q47,Tree.holds,zf,inR,lo,hi,Int.toNat_natCast];refine⟨λhlt=> ?_,λhge=> ?_⟩
  ·have hlt:i<l.length:=by have:=of_decide_eq_true hlt; omega
   have hpi:=hpt i hlt;have h6:d.zh.length<=2500:=hf.2.2.2.2.2;have hss:=Tm.Jm (f:=qq d fl) (e:=e2) hlt;rw [hs] at hss;replace hss:Tm.zN (qq d fl) e2 l (i+1)=⟨(Tm.prod e (l.getD i Per.nil).part d.zh).2,acc++capL d fl (l.getD i Per.nil) (Tm.prod e (l.getD i Per.nil).part d.zh).1⟩:=hss;refine⟨by omega,λ_=> ?_⟩;refine⟨(d,e,(l.getD i Per.nil).part,d.zh),⟨by simp,by simp [Deal.cells],trivial,by show(l.getD i Per.nil).part.length<_; omega,by show d.zh.length<_; omega⟩,⟨(),trivial⟩,λ_ _=> ?_⟩;refine⟨(⟨d,(Tm.prod e (l.getD i Per.nil).part d.zh).2,(l.getD i Per.nil),(Tm.prod e (l.getD i Per.nil).part d.zh).1⟩,fl),⟨⟨⟨rfl,rfl⟩,⟨⟨rfl,rfl⟩,⟨rfl,rfl⟩,rfl,trivial⟩,rfl,⟨rfl,rfl⟩,trivial⟩,by simp [Deal.cells],trivial,hf,by have:=Tm.xZ (e:=e) (a:=(l.getD i Per.nil).part) (b:=d.zh); show(Tm.prod e (l.getD i Per.nil).part d.zh).1.length<_; omega⟩,⟨(),trivial⟩,λ_ _=> ?_⟩;refine⟨⟨trivial,Nat.le_refl _,by omega⟩,λ_=>⟨by omega,λ_=> ?_⟩⟩;rw [if_pos trivial];refine⟨⟨i+1,hlt⟩,by show l.length - (i+1)<l.length - i; omega,?_,?_,by kernel_rfl,by show 1<=6; decide⟩
   ·rw [hss]; simp [Kf,perS,za,capL]
   ·rw [hss];refine⟨by simp [bCap,dbox],by simp [dbox],by simp [List.replicate],trivial,by simp [Deal.cells],⟨by simp [capL],rfl,Y5 acc (capL d fl (l.getD i Per.nil) (Tm.prod e (l.getD i Per.nil).part d.zh).1)⟩,trivial⟩
  ·have hge:i=l.length:=by have:=of_decide_eq_false hge; omega
   subst hge;rw [hs] at hq;simp only at hq;have hw:=Tm.ur acc;obtain⟨c,hc⟩:∃ c,Tm.whole acc=c:=⟨_,rfl⟩;rw [hc] at hq hw;refine⟨acc,⟨⟨⟨rfl,rfl,uA _ _ _⟩,trivial⟩,by omega⟩,⟨(),trivial⟩,λ_ _=> ?_⟩;simp only [hc];unfold Tm.resE at hq;refine⟨λh=> ?_,λh=> ?_⟩
   ·rw [if_pos (of_decide_eq_true h)] at hq;refine⟨c,⟨⟨j3 c,trivial⟩,by omega,by omega⟩,⟨_,rfl⟩,?_⟩;rintro _ rfl;refine⟨λ_=>⟨λh1=> ?_,λh1=> ?_⟩,λh1=>absurd (h.symm.trans h1) (by decide)⟩
    ·rw [if_neg (by simpa using h1)] at hq;exact RetR.keep [0] rfl rfl (by show ∀ j,j<1->_; decide) rfl hq zero_eq (by simp [expH,expB,exp1,exp0,ren0,bCap,dbox]) rfl
    ·have h1:c.errC=0:=by simpa using h1
     rw [if_pos h1,h1] at hq;refine⟨c,⟨⟨j3 c,trivial⟩,by omega⟩,⟨(),trivial⟩,λ_ _=> ?_⟩;exact RetR.xP [0] rfl rfl (by show ∀ j,j<1->_; decide) rfl hq (LeA.refl _) (by simp [expH,expB,exp1,exp0,ren0,bCap,dbox]) rfl
   ·have h:=of_decide_eq_false h;rw [if_neg h,if_neg h] at hq;refine⟨λ_=> ?_,λh1=>absurd h1 (by simp [h])⟩;exact RetR.keep [0] rfl rfl (by show ∀ j,j<1->_; decide) rfl hq zero_eq (by simp [expH,expB,exp1,exp0,ren0,bCap,dbox]) rfl
theorem zq7{O:Nat->Prop}{w0:World}{I0:List SE}{Hs:Nat->KV->Heap->Prop}{Q:AV×Heap->Prop}(d:Deal)(l:List Per)(fl:Bool)(e1:Int)(hf:Tm.fits d)(hl:l.length<=60)(hpt:∀ i,i<l.length->(l.getD i Per.nil).part.length<=300)
  (hq:Q (.tup [(if Tm.resE (Tm.zN (qq d fl) (Tm.ja e1 l l.length) l l.length).e (Tm.whole (Tm.zN (qq d fl) (Tm.ja e1 l l.length) l l.length).acc)=0 then Tm.whole (Tm.zN (qq d fl) (Tm.ja e1 l l.length) l l.length).acc else Tm.zero).conD,.i (Tm.resE (Tm.zN (qq d fl) (Tm.ja e1 l l.length) l l.length).e (Tm.whole (Tm.zN (qq d fl) (Tm.ja e1 l l.length) l l.length).acc))],[bCap d fl])) :
  zb Tryz.prog Tryz.f45 O 1 w0 I0 Hs (RetR QS 1 Q) (.code (.loop (lps (inside K45 0) 0).1)::(lps (inside K45 0) 0).2) (mk Tryz.f45.ntmps (Vh l 0) (HCap d fl e1)):=by
 refine zb.loop (ι:={i:Nat // i<=l.length}) (λi=>Vh l i.1) (λi=>HCap d fl (Tm.ja e1 l i.1)) (λi=>l.length - i.1) ⟨0,Nat.zero_le _⟩ 0 ?_ ?_ (by kernel_rfl)
 ·refine⟨by simp [Vh,perS,za],?_,by kernel_rfl,by show 1<=5; decide⟩;have:Tm.ja e1 l 0=e1:=by unfold Tm.ja; split<;>simp_all [Tm.badT]
  simp [HCap,bCap,dbox,Deal.cells,this,List.replicate]
 ·rintro⟨i,hil⟩;obtain⟨e',he'⟩:∃ e',Tm.ja e1 l i=e':=⟨_,rfl⟩;simp only [he'];refine zb.n zpr.h [1,2,3,6,8,11,14,23,24,25,37,38,39,50,51,52,53,54,55,56,57,66,67,68] (let v9:=lps (inside (inside K45 0) 0) 0;let v7:=inR .i64 (i+1);let v6:List AV:=[.i e',.str d.long,.str d.short,.str d.ccy,.str d.name,.str d.zc,.str d.zh];let v5:List AV:=[.undef,.undef,.undef,.undef,.undef,.undef,.undef,.undef,.undef,.undef,.undef,.undef];let v4:List AV:=[.str d.long,.str d.short,.str d.ccy,.str d.name,.str d.zc,.str d.zh];let v3:=l.getD (i:Int).toNat Per.nil;let v8:List AV:=[.i v3.fix,.i v3.pay,.str v3.part];let v2:List (Nat×AV):=[(1,.sl l.length 3 (perG l)),(2,.fn 49 [] [.ptr 0 0]),(3,.ptr 1 0),(6,.ptr 2 0),(8,.ptr 4 0),(11,.i v3.pay),Z 14,Z 23,Z 24,Z 25,(37,.sl l.length 3 (perG l)),(38,.i l.length),(39,.i (i+1)),Z 50,Z 51,Z 52,Z 53,Z 54,Z 55,Z 56,Z 57,Z 66,Z 67,Z 68];let v1:zY:=.back 0 v2 [.box [.bool fl],.box v4,.box v5,.dead,.box v6,.box v8];.D ((i:Int)<l.length) (.side ((0:Int)<=i/\(i:Int)<l.length) (.ite (bif decide (Per.pay v3 <Per.fix v3) then true else bif decide ((0:Int)<i) then decide (Per.pay v3 <=Tm.kS l i) else false) (.D (e'=(0:Int)) (.side v7 (.leaf (.back 0 v2 [.box [.bool fl],.box v4,.box v5,.dead,.box [.i 40,.str d.long,.str d.short,.str d.ccy,.str d.name,.str d.zc,.str d.zh],.box v8]))) (.side v7 (.leaf v1))) (.side v7 (.leaf v1)))) (.leaf (.loop v9.1 v9.2 [(1,.sl l.length 3 (perG l)),(2,.fn 49 [] [.ptr 0 0]),(3,.ptr 1 0),(6,.ptr 2 0),(8,.ptr 4 0),(11,.i (Tm.kS l i)),(14,.nils),Z 23,Z 24,Z 25,(37,.sl l.length 3 (perG l)),(38,.i l.length),(39,.i i),Z 50,Z 51,Z 52,Z 53,Z 54,Z 55,Z 56,Z 57,(66,.sl l.length 3 (perG l)),(67,.i l.length),(68,.i 0)] [.box [.bool fl],.box v4,.box v5,.dead,.box v6]))) ?_;simp only [Tree.holds,zf,inR,lo,hi,Int.toNat_natCast];refine⟨λhlt=> ?_,λhge=> ?_⟩
  ·have hlt:i<l.length:=by have:=of_decide_eq_true hlt; omega
   have hs:=Tm.Jr (e:=e1) (l:=l) (i:=i) rfl;rw [he'] at hs;have hp:=Tm.WD l i;refine⟨by omega,λ_=>⟨λhc=>⟨λhz=>⟨by omega,λ_=> ?_⟩,λhz=>⟨by omega,λ_=> ?_⟩⟩,λhc=>⟨by omega,λ_=> ?_⟩⟩⟩
   all_goals
    rw [if_pos trivial];refine⟨⟨i+1,hlt⟩,by show l.length - (i+1)<l.length - i; omega,by simp [Vh,perS,za,hp],?_,by kernel_rfl,by show 1<=5; decide⟩
   ·rw [if_pos (by simpa using hc),if_pos (of_decide_eq_true hz)] at hs;simp [HCap,bCap,dbox,Deal.cells,hs,List.replicate]
   ·rw [if_pos (by simpa using hc),if_neg (of_decide_eq_false hz)] at hs;simp [HCap,bCap,dbox,Deal.cells,hs,List.replicate]
   ·rw [if_neg (by simp at hc ⊢; omega)] at hs;simp [HCap,bCap,dbox,Deal.cells,hs,List.replicate]
  ·have hge:i=l.length:=by have:=of_decide_eq_false hge; omega
   subst hge;rw [he'] at hq;refine zb.bear 14 12 (Con.conG []) rfl (by decide) (by kernel_rfl) ?_;refine zb.weak (S:=Kf l 0 0) (H:=YG d fl e' []) ⟨by simp [Kf,xD,perS,za],by simp [YG,bCap,dbox,Deal.cells,List.replicate,za],by kernel_rfl,by show 1<=6; decide⟩ ?_;exact zra d l fl e' hf hl hpt hq
theorem zdy:zd Tryz.prog 45 QS:=by
 refine z7 (fn:=Tryz.f45) (c:=Tryz.f45.body.getD .skip) rfl rfl rfl (λh=>by cases h) λp hp O w0 I0 Q hl0 hq=> ?_
 obtain⟨d,l,fl⟩:=p;replace hq:=hq () trivial;obtain⟨hf,hl,hpt⟩:=hp;simp only at hf hl hpt hq;unfold Tm.wA Tm.ku at hq;refine zb.n zpr.h [1,2,3,6,8,11,14,23,24,25,37,38,39,50,51,52,53,54,55,56,57,66,67,68] (let v2:List AV:=[.str d.long,.str d.short,.str d.ccy,.str d.name,.str d.zc,.str d.zh];let v1:List AV:=[.int .u8 0,.str #[].toList,.str #[].toList,.str #[].toList,.int .u8 0,.str #[].toList,.str #[].toList,.i 0,.nils,.i 0,.nils,.nils];.D ((40:Int)<l.length) (.R [.agg v1,.i 4] [.box [.bool fl],.box v2,.box v1]) (.ex (λ(x:Deal×Int×List L8)=>eqL [.ptr 0 0,.osl 1 1 0 2] [.ptr 0 0,.osl 1 1 0 x.2.2.length]/\eqH [.box [.i 0,.str d.long,.str d.short,.str d.ccy,.str d.name,.str d.zc,.str d.zh],.arr 2 1 (zj 1 [.str d.zc,.str d.zh])] [.box [.i x.2.1,.str x.1.long,.str x.1.short,.str x.1.ccy,.str x.1.name,.str x.1.zc,.str x.1.zh],.arr x.2.2.length 1 (ratG x.2.2)]/\2=2/\x.2.2.length<1099511627776/\∀ (r:L8),r∈x.2.2->r.length<1099511627776) λn=>.A λn_1=>.leaf (.loop (lps K45 0).1 (lps K45 0).2 [(1,.sl l.length 3 (perG l)),(2,.fn 49 [] [.ptr 0 0]),(3,.ptr 1 0),(6,.ptr 2 0),(8,.ptr 4 0),Z 11,Z 14,(23,.sl l.length 3 (perG l)),(24,.i l.length),(25,.i 0),Z 37,Z 38,Z 39,Z 50,Z 51,Z 52,Z 53,Z 54,Z 55,Z 56,Z 57,Z 66,Z 67,Z 68] [.box [.bool fl],.box v2,.box v1,.box v2,.box [.i (Tm.first n.2.1 n.2.2),.str n.1.long,.str n.1.short,.str n.1.ccy,.str n.1.name,.str n.1.zc,.str n.1.zh],.arr n.2.2.length 1 (ratG n.2.2)]))) ?_;simp only [Tree.holds,zf];refine⟨λh=> ?_,λh=> ?_⟩
 ·have h40:=of_decide_eq_true h;simp only [if_pos (show 40<l.length by omega)] at hq;rw [if_neg (show ¬ (4:Int)=0 by decide)] at hq;exact RetR.keep [0] rfl rfl (by show ∀ j,j<1->_; decide) rfl hq zero_eq (by simp [expH,expB,exp1,exp0,ren0,bCap,dbox]) rfl
 have h40:=of_decide_eq_false h;simp only [if_neg (show ¬ 40<l.length by omega)] at hq;refine⟨(d,0,[d.zc,d.zh]),⟨by simp,by simp [Deal.cells,K4],trivial,by show 2<2^40; decide,uE hf⟩,⟨(),trivial⟩,λ_ _=> ?_⟩;unfold Tm.Qu Tm.perE at hq;obtain⟨e0,he0⟩:∃ e,Tm.first 0 [d.zc,d.zh]=e:=⟨_,rfl⟩;rw [he0] at hq;simp only [he0];refine zb.loop (ι:={i:Nat // i<=l.length}) (λi=>zjs l i.1) (λi=>HCap d fl (Tm.first e0 ((l.map Per.part).take i.1))) (λi=>l.length - i.1) ⟨0,Nat.zero_le _⟩ 0 ?_ ?_ (by kernel_rfl)
 ·exact⟨by simp [zjs,perS,za],by simp [HCap,bCap,dbox,Deal.cells,Tm.first,List.replicate],by kernel_rfl,by show 1<=5; decide⟩
 ·rintro⟨i,hil⟩;obtain⟨e',he'⟩:∃ e',Tm.first e0 ((l.map Per.part).take i)=e':=⟨_,rfl⟩;simp only [he'];refine zb.n zpr.h [1,2,3,6,8,11,14,23,24,25,37,38,39,50,51,52,53,54,55,56,57,66,67,68] (let v3:List AV:=[.undef,.undef,.undef,.undef,.undef,.undef,.undef,.undef,.undef,.undef,.undef,.undef];let v2:=l.getD (i:Int).toNat Per.nil;let v1:List AV:=[.str d.long,.str d.short,.str d.ccy,.str d.name,.str d.zc,.str d.zh];.D ((i:Int)<l.length) (.side ((0:Int)<=i/\(i:Int)<l.length) (.ex (λ(x:Deal×Int×List L8)=>eqL [.ptr 0 0,.osl 1 1 0 1] [.ptr 0 0,.osl 1 1 0 x.2.2.length]/\eqH [.box [.i e',.str d.long,.str d.short,.str d.ccy,.str d.name,.str d.zc,.str d.zh],.arr 1 1 (zj 1 [.str v2.part])] [.box [.i x.2.1,.str x.1.long,.str x.1.short,.str x.1.ccy,.str x.1.name,.str x.1.zc,.str x.1.zh],.arr x.2.2.length 1 (ratG x.2.2)]/\2=2/\x.2.2.length<1099511627776/\∀ (r:L8),r∈x.2.2->r.length<1099511627776) λn=>.A λn_1=>.S (i+1) (.leaf (.back 0 [(1,.sl l.length 3 (perG l)),(2,.fn 49 [] [.ptr 0 0]),(3,.ptr 1 0),(6,.ptr 2 0),(8,.ptr 4 0),Z 11,Z 14,(23,.sl l.length 3 (perG l)),(24,.i l.length),(25,.i (i+1)),Z 37,Z 38,Z 39,Z 50,Z 51,Z 52,Z 53,Z 54,Z 55,Z 56,Z 57,Z 66,Z 67,Z 68] [.box [.bool fl],.box v1,.box v3,.dead,.box [.i (Tm.first n.2.1 n.2.2),.str n.1.long,.str n.1.short,.str n.1.ccy,.str n.1.name,.str n.1.zc,.str n.1.zh],.box [.i v2.fix,.i v2.pay,.str v2.part],.arr n.2.2.length 1 (ratG n.2.2)])))) (.leaf (.loop (lps (inside K45 0) 0).1 (lps (inside K45 0) 0).2 [(1,.sl l.length 3 (perG l)),(2,.fn 49 [] [.ptr 0 0]),(3,.ptr 1 0),(6,.ptr 2 0),(8,.ptr 4 0),(11,.i (-9223372036854775808:Int)),Z 14,(23,.sl l.length 3 (perG l)),(24,.i l.length),(25,.i i),(37,.sl l.length 3 (perG l)),(38,.i l.length),(39,.i 0),Z 50,Z 51,Z 52,Z 53,Z 54,Z 55,Z 56,Z 57,Z 66,Z 67,Z 68] [.box [.bool fl],.box v1,.box v3,.dead,.box [.i e',.str d.long,.str d.short,.str d.ccy,.str d.name,.str d.zc,.str d.zh]]))) ?_;simp only [Tree.holds,zf,inR,lo,hi,Int.toNat_natCast];refine⟨λhlt=> ?_,λhge=> ?_⟩
  ·have hlt:i<l.length:=by have:=of_decide_eq_true hlt; omega
   have hpi:=hpt i hlt;have ht:=Tm.xp (e:=e0) (l:=l.map Per.part) (i:=i) (by simpa using hlt);rw [he'] at ht;have hg:(l.map Per.part).getD i []=(l.getD i Per.nil).part:=by simp [List.getD,hlt]
   rw [hg] at ht;have ht2:Tm.first e' [(l.getD i Per.nil).part]=Tm.first e0 ((l.map Per.part).take (i+1)):=by rw [ht]; rfl
   refine⟨by omega,λ_=>⟨(d,e',[(l.getD i Per.nil).part]),⟨by simp,by simp [Deal.cells,KL],trivial,by show 1<2^40; decide,λr hr=>by rw [List.mem_singleton.1 hr]; omega⟩,⟨(),trivial⟩,λ_ _=>⟨by omega,λ_=> ?_⟩⟩⟩;rw [if_pos trivial];exact⟨⟨i+1,hlt⟩,by show l.length - (i+1)<l.length - i; omega,by simp [zjs,perS,za],by show eqH _ (HCap d fl (Tm.first e0 ((l.map Per.part).take (i+1)))); rw [<- ht2]; simp [HCap,bCap,dbox,Deal.cells,List.replicate],by kernel_rfl,by show 1<=5; decide⟩
  ·have hge:i=l.length:=by have:=of_decide_eq_false hge; omega
   subst hge;have hz:(l.map Per.part).take l.length=l.map Per.part:=by rw [<- List.length_map (f:=Per.part),List.take_length]
   rw [hz] at he';rw [he'] at hq;refine zb.weak (S:=Vh l 0) (H:=HCap d fl e') ⟨by simp [Vh,perS,za,Tm.kS],by simp [HCap,bCap,dbox,Deal.cells,List.replicate],by kernel_rfl,by show 1<=5; decide⟩ ?_;exact zq7 d l fl e' hf hl hpt hq
noncomputable def K9:List Go.Sx.Item:=[.code (Tryz.f9.body.getD .skip)]
structure xH where
 d:Deal
 l:List Per
 days:List Int
def zoq:Ctr:=ctrP true (λp:xH=>[p.d.av,perS p.l,Con.dayS p.days]) (λp=>p.l.length<2^60) (λp r=>r=false->Tm.short p.d p.l p.days) (λ_ (r:Bool)=>(.bool r,[]))
def SLo(l:List Per)(i:Nat):KV:=[(1,perS l),(7,.i (i:Int))]
theorem zmz:zd Tryz.prog 9 zoq:=by
 refine zk (fn:=Tryz.f9) (c:=Tryz.f9.body.getD .skip) rfl rfl rfl λp hp O w0 Q hq=> ?_
 obtain⟨d,l,days⟩:=p;replace hp:l.length<2^60:=hp;refine zb.n z9 [1,7] (let v1:List Blk:=[.box [.str d.long,.str d.short,.str d.ccy,.str d.name,.str d.zc,.str d.zh]];.ite (bif bif bif bif bif bif bif decide ((200:Int)<(d.long.length:Int)) then true else decide ((200:Int)<(d.short.length:Int)) then true else decide ((200:Int)<(d.ccy.length:Int)) then true else decide ((200:Int)<(d.name.length:Int)) then true else decide ((2500:Int)<(d.zc.length:Int)) then true else decide ((2500:Int)<(d.zh.length:Int)) then true else decide ((60:Int)<l.length) then true else decide ((200:Int)<days.length)) (.R [.bool true] v1) (.leaf (.loop (lps K9 0).1 (lps K9 0).2 [(1,.sl l.length 3 (perG l)),(7,.i 0)] v1))) ?_;simp only [Tree.holds,zf];have hqt:Q (.bool true,[]):=hq true (λh=>by cases h);refine⟨λh=>RetR.scal hqt rfl (by simp [resV]),λh=> ?_⟩
 have hs:Tm.fits d/\l.length<=60/\days.length<=200:=by
  simp only [Bool.cond_true_left,Bool.or_eq_false_iff,decide_eq_false_iff_not] at h;unfold Tm.fits;omega
 refine zb.loop (ι:={i:Nat // i<=l.length/\∀ j,j<i->(l.getD j Per.nil).part.length<=300}) (λi=>SLo l i.1) (λi=>[.box [.str d.long,.str d.short,.str d.ccy,.str d.name,.str d.zc,.str d.zh]]) (λi=>l.length - i.1) ⟨0,Nat.zero_le _,λj hj=>absurd hj (Nat.not_lt_zero j)⟩ 0 ?_ ?_ (by kernel_rfl)
 ·exact⟨by simp [SLo,perS,za],by simp,by kernel_rfl,Nat.zero_le _⟩
 ·rintro⟨i,hil,hall⟩;refine zb.n z9 [1,7] (let v1:List Blk:=[.box [.str d.long,.str d.short,.str d.ccy,.str d.name,.str d.zc,.str d.zh]];.D ((i:Int)<l.length) (.side ((0:Int)<=i/\(i:Int)<l.length) (.D ((300:Int)<(↑(List.length (Per.part (l.getD (i:Int).toNat Per.nil))):Int)) (.R [.bool true] v1) (.S (i+1) (.leaf (.back 0 [(1,.sl l.length 3 (perG l)),(7,.i (i+1))] v1))))) (.R [.bool false] v1)) ?_;simp only [Tree.holds,zf,inR,lo,hi,Int.toNat_natCast];refine⟨λhlt=> ?_,λhge=> ?_⟩
  ·have hlt:i<l.length:=by have:=of_decide_eq_true hlt; omega
   refine⟨by omega,λ_=>⟨λ_=>RetR.scal hqt rfl (by simp [resV]),λh3=>⟨by omega,λ_=> ?_⟩⟩⟩;rw [if_pos trivial];have h3:(l.getD i Per.nil).part.length<=300:=by have:=of_decide_eq_false h3; omega
   refine⟨⟨i+1,hlt,λj hj=> ?_⟩,by show l.length - (i+1)<l.length - i; omega,by simp [SLo,perS,za],by simp,by kernel_rfl,Nat.zero_le _⟩;rcases Nat.lt_succ_iff_lt_or_eq.1 hj with hj | rfl
   ·exact hall j hj
   ·exact h3
  ·have hge:i=l.length:=by have:=of_decide_eq_false hge; omega
   subst hge;exact RetR.scal (hq false λ_=>⟨hs.1,hs.2.1,hs.2.2,hall⟩) rfl (by simp [resV])
end Go.Proofs.Tryz
end
section
namespace Go.Nov
open Go.Sx
namespace Tm
end Tm
end Go.Nov
end
section
namespace Go.Nov
end Go.Nov
end
section
set_option maxRecDepth 100000
open Go Go.Sx Go.Proofs Go.Nov
namespace Go.Proofs.Tryz
attribute [local simp] eqKV eqA eqA0 eqH eqB eqL eqL0
noncomputable def GSwp:=tb UX tz
noncomputable def GCap:=tb zdy tz
def zit:Ctr:=ctrP false (λx:PeA=>[x.d.av,perS x.l]) (λx=>x.ok) (λ_ (_:Unit)=>True) (λx _=>(.tup [(Tm.wA (Tm.legS x.d) x.d x.l).conD,.i (Tm.ku (Tm.legS x.d) x.d x.l)],[]))
theorem zcp:zd Tryz.prog 19 zit:=by
 refine zk (fn:=Tryz.f19) (c:=Tryz.f19.body.getD .skip) rfl rfl rfl λp hp O w0 Q hq=> ?_
 obtain⟨d,l,fl⟩:=p;replace hq:=hq () trivial;refine zb.n GSwp.h [] (.ex (λ(x:PeA)=>eqL [d.av,.sl l.length 3 (perG l),.fn 46 [] [.ptr 0 0]] [x.d.av,.sl x.l.length 3 (perG x.l),.fn 46 [] [.ptr 0 0]]/\eqH [.box [.str d.long,.str d.short,.str d.ccy,.str d.name,.str d.zc,.str d.zh]] [.box [.str x.d.long,.str x.d.short,.str x.d.ccy,.str x.d.name,.str x.d.zc,.str x.d.zh]]/\1=1/\PeA.ok x) λn=>let v1:=Tm.wA (zP n.d n.fl) n.d n.l;.A λn_1=>.R [v1.conD,.i (Tm.ku (zP n.d n.fl) n.d n.l)] [.box [.str n.d.long,.str n.d.short,.str n.d.ccy,.str n.d.name,.str n.d.zc,.str n.d.zh],.box v1.zg]) ?_;simp only [Tree.holds,zf];refine⟨⟨d,l,fl⟩,⟨⟨⟨rfl,rfl,rfl,rfl,rfl,rfl,trivial⟩,⟨rfl,rfl,za _ _ _⟩,rfl,trivial⟩,by simp,trivial,hp⟩,⟨(),trivial⟩,λ_ _=> ?_⟩;exact RetR.le0 hq (λh=>by cases h) (LeA.refl _)
def capC:Ctr:=ctrP false (λx:PeA=>[x.d.av,perS x.l,.bool x.fl]) (λx=>x.ok) (λ_ (_:Unit)=>True) (λx _=>(.tup [(Tm.wA (Tm.legC x.d x.fl) x.d x.l).conD,.i (Tm.ku (Tm.legC x.d x.fl) x.d x.l)],[]))
theorem zpq:zd Tryz.prog 20 capC:=by
 refine zk (fn:=Tryz.f20) (c:=Tryz.f20.body.getD .skip) rfl rfl rfl λp hp O w0 Q hq=> ?_
 obtain⟨d,l,fl⟩:=p;replace hq:=hq () trivial;refine zb.n GCap.h [] (.ex (λ(x:PeA)=>eqL [d.av,.sl l.length 3 (perG l),.fn 49 [] [.ptr 0 0]] [x.d.av,.sl x.l.length 3 (perG x.l),.fn 49 [] [.ptr 0 0]]/\eqH [.box [.bool fl]] [.box [.bool x.fl]]/\1=1/\PeA.ok x) λn=>let v1:=Tm.wA (qq n.d n.fl) n.d n.l;.A λn_1=>.R [v1.conD,.i (Tm.ku (qq n.d n.fl) n.d n.l)] [.box [.str d.long,.str d.short,.str d.ccy,.str d.name,.str d.zc,.str d.zh],.box [.bool n.fl],.box v1.zg]) ?_;simp only [Tree.holds,zf];refine⟨⟨d,l,fl⟩,⟨⟨⟨rfl,rfl,rfl,rfl,rfl,rfl,trivial⟩,⟨rfl,rfl,za _ _ _⟩,rfl,trivial⟩,by simp,trivial,hp⟩,⟨(),trivial⟩,λ_ _=> ?_⟩;exact RetR.le0 hq (λh=>by cases h) (LeA.refl _)
end Go.Proofs.Tryz
end
