/- Part 9 of the proof. -/
import Derived.Test.YtihplbclhhhgdaaGreatDoorSxh
import Derived.DefersIn
set_option linter.unusedVariables false
set_option linter.unusedSimpArgs false
set_option linter.unusedSectionVars false
section
namespace Go.Sx
variable [Stat]
section
variable {O:Nat->Prop} {pin:Nat} {w0:World} {I0:List SE} {P:Program} {fn:Func} {Xp:List PanicEntry->Prop}
def jk:Nat->Code->List Item
 | n+1,.seq a b=>.code a::jk n b
 | _,c=>[.code c]
theorem W7{M:Option Nat}{H:Nat->Act->World->Prop}{B:Exit->Act->World->Prop}{k:List Item}{e:Exit}(he:e≠.normal){a:Act}{w:World} : ∀ (n:Nat) (c:Code),wpK M P H B (jk n c++k) e a w->wpK M P H B k e a w
 | 0,c,h=>by cases c<;>cases e<;>first | exact absurd rfl he | exact h
 | n+1,c,h=>by
  cases c with
  | seq x y=>cases e<;>first | exact absurd rfl he | exact W7 he n y h
  | _=>cases e<;>first | exact absurd rfl he | exact h
theorem ZN{M:Option Nat}{H:Nat->Act->World->Prop}{B:Exit->Act->World->Prop} : ∀ (n:Nat) (c:Code) (k:List Item) (a:Act) (w:World),wpK M P H B (jk n c++k) .normal a w->wpK M P H B (.code c::k) .normal a w
 | 0,c,k,a,w,h=>by cases c<;>exact h
 | n+1,c,k,a,w,h=>by
  cases c with
  | seq x y=>
   simp only [jk,List.cons_append,wpK] at h ⊢;refine wpIn_seq (wpIn_mono h λe a w h=> ?_);cases e with
   | normal=>exact ZN n y k a w h
   | _=>exact W7 (by simp) n y h
  | _=>exact h
theorem zc.spine{M:Option Nat}{Hs:Nat->KV->Heap->Prop}{R:List AV->Heap->Prop}{k:List Item}{c:Code}{st:St}(n:Nat)(h:zN Xp M P fn O pin w0 I0 Hs R (Go.Sx.jk n c++k) st):zN Xp M P fn O pin w0 I0 Hs R (.code c::k) st:=
 λw σ a hm=>ZN n c k a w (h w σ a hm)
def Qm:Item->Bool
 | .inLoop=>false
 | _=>true
theorem kI{M:Option Nat}{H H':Nat->Act->World->Prop}{B:Exit->Act->World->Prop}{k:List Item}(h1:∀ a w,H' (qM k) a w->wpK M P H B k .normal a w)(h2:∀ d a w,d<qM k->H' d a w->H d a w) :
  ∀ (ks:List Item),ks.all Qm=true->∀ (e:Exit) (a:Act) (w:World),wpK M P H' B (ks++.inLoop::k) e a w->wpK M P H B (ks++k) e a w
 | [],_,e,a,w,h=>by
  cases e with
  | normal=>exact h1 a w h
  | _=>exact jG (k:=k) (λd a w hd h=>h2 d a w hd h) h
 | .code c::ks,hf,e,a,w,h=>by
  have hf':ks.all Qm=true:=by simpa [Qm] using hf
  cases e with
  | normal=>exact wpIn_mono h λe a w h=>kI h1 h2 ks hf' e a w h
  | _=>exact kI h1 h2 ks hf' _ a w h
 | .inBlock id::ks,hf,e,a,w,h=>by
  have hf':ks.all Qm=true:=by simpa [Qm] using hf
  cases e with
  | normal=>exact kI h1 h2 ks hf' _ a w h
  | exit i=>
   simp only [List.cons_append,wpK] at h ⊢;split at h
   ·rename_i hi; rw [aP hi]; exact kI h1 h2 ks hf' _ a w h
   ·rename_i hi; rw [aO hi]; exact kI h1 h2 ks hf' _ a w h
  | _=>exact kI h1 h2 ks hf' _ a w h
 | .inLoop::ks,hf,e,a,w,h=>by simp [Qm] at hf
theorem zc.cutL{M:Option Nat}{ι:Type}{Hs:Nat->KV->Heap->Prop}{R:List AV->Heap->Prop}{st:St}(L:List Item)(m dk:Nat)(S:ι->KV)(H:ι->Heap)(hf:(L.take m).all Qm=true)(hd:qM (L.drop m)=dk)
  (h1:zN Xp M P fn O pin w0 I0 (λd kv h=>if d=dk then ∃ x,LeK pin fn.ntmps kv h (S x) (H x) else Hs d kv h) R (L.take m++.inLoop::L.drop m) st)
  (h2:∀ x,zN Xp M P fn O pin w0 I0 Hs R (L.drop m) (mk fn.ntmps (S x) (H x))):zN Xp M P fn O pin w0 I0 Hs R L st:=by
 subst hd;intro w σ a hm;have:=h1 w σ a hm;rw [<- bU m L];refine kI ?_ ?_ (L.take m) hf .normal a w this
 ·rintro a' w' ⟨st',Z',⟨kv,h,hh,rfl⟩,hm'⟩;rw [aP rfl] at hh;obtain⟨x,hle⟩:=hh;exact h2 x w' _ a' (hle.le.mod hm')
 ·rintro d a' w' hd ⟨st',Z',⟨kv,h,hh,rfl⟩,hm'⟩;rw [aO (by omega)] at hh;exact⟨_,Z',⟨kv,h,hh,rfl⟩,hm'⟩
end
end Go.Sx
end
section
set_option maxRecDepth 100000
open Go Go.Sx Go.Proofs Go.Nov
def Go.Nov.Con.p(c:Con):Int:=kL c.kind
namespace Go.Proofs.Tryz
attribute [local simp] eqKV eqA eqA0 eqH eqB eqL eqL0
def zjg:Ctr:=ctrP true (λc:Con=>[c.conA]) (λc=>c.big<2^40) (λc r=>r=c.xP) (λ_ (r:Bool)=>(.bool r,[]))
noncomputable def LN:List Go.Sx.Item:=jk 12 (f64.body.getD .skip)++[]
noncomputable def LN1:List Go.Sx.Item:=LN.drop 6
noncomputable def LN2:List Go.Sx.Item:=LN1.drop 1
noncomputable def LN3:List Go.Sx.Item:=LN2.drop 3
noncomputable def LN4:List Go.Sx.Item:=LN3.drop 1
noncomputable def LN5:List Go.Sx.Item:=LN4.drop 1
def HNd(c:Con):Heap:=[.box c.ze,.box [.i c.p],.box [.fn 100 [] [.ptr 1 0]]]
def SN1:KV:=[(1,.ptr 0 0),(5,.ptr 2 0),(6,.fn 101 [] [.ptr 2 0])]
def SN2(a:Bool):KV:=[(1,.ptr 0 0),(4,.bool a),(5,.ptr 2 0)]
def SN3(a:Bool)(m:Int):KV:=[(1,.ptr 0 0),(4,.bool a),(5,.ptr 2 0),(7,.i m)]
def SN4(a:Bool)(m:Int)(b:Bool):KV:=[(1,.ptr 0 0),(4,.bool a),(5,.ptr 2 0),(7,.i m),(8,.bool b)]
def SN5(a:Bool)(m:Int)(b d:Bool):KV:=[(1,.ptr 0 0),(4,.bool a),(7,.i m),(8,.bool b),(9,.bool d)]
namespace Nd
def words(c:Con):Prop:=wG (bitB c.p 1) c.src=true/\wG (bitB c.p 2) c.dst=true/\wG (bitB c.p 4) c.name=true/\¬ (bitB c.p 2=true/\c.src=c.dst)
def okX(c:Con):Bool:=if bitB c.p 8=true then numX c.x else if bitB c.p 16=true then truX c.x else ja c.x
def subs(c:Con):Int:=if bitB c.p 256=true then 2 else if bitB c.p 128=true then 1 else 0
def right(c:Con):Bool:=if bitB c.p 32=true then dayB c.date else decide (c.date=0)
def list(c:Con):Bool:=if bitB c.p 64=true then xN c.days else decide (c.days.length=0)
end Nd
theorem zdt(k:Int):0<=kL k/\kL k<512:=by
 unfold kL
 repeat' split
 all_goals decide
theorem Vx{c:Con}(hk:1<=c.kind/\c.kind<=10):c.xP=true↔Nd.words c/\Nd.okX c=true/\Nd.right c=true/\Nd.list c=true/\(c.sub.length:Int)=Nd.subs c:=by
 have hr:c.kind=1\/c.kind=2\/c.kind=3\/c.kind=4\/c.kind=5\/c.kind=6\/c.kind=7\/c.kind=8\/c.kind=9\/c.kind=10:=by omega
 unfold Con.xP vK Nd.words Nd.okX Nd.right Nd.list Nd.subs Con.p kL wG bitB;generalize c.kind=k at hr hk;generalize c.src=a;generalize c.dst=b;generalize c.name=n;generalize c.x=x;generalize c.date=d;generalize c.days=l;generalize c.sub.length=m;rcases hr with rfl | rfl | rfl | rfl | rfl | rfl | rfl | rfl | rfl | rfl
 all_goals
  simp;grind
theorem YR{c:Con}(h:¬ ((1<=c.kind/\c.kind<=10)/\Nd.words c)):c.xP=false:=by
 by_cases hk:1<=c.kind/\c.kind<=10
 ·rw [Bool.eq_false_iff];exactλhh=>h ⟨hk,((Vx hk).1 hh).1⟩
 ·unfold Con.xP vK;rw [aO (by omega),aO (by omega),aO (by omega),aO (by omega),aO (by omega),aO (by omega),aO (by omega),aO (by omega),aO (by omega)]
abbrev q30(A:List AV)(x:List Int):Prop:=eqL A [.sl x.length 1 (Con.dayG x)]/\x.length<1099511627776
abbrev q29(A:List AV)(x:Ex):Prop:=eqL A [x.exA]/\Ex.size x<1099511627776/\Ex.zJ x<1099511627776
abbrev q28(A:List AV)(H:Heap)(x:Int×Int×L8):Prop:=eqL A [.i x.2.1,.str x.2.2,.ptr 0 0]/\eqH H [.box [.fn 100 [] [.ptr 1 0]],.box [.i x.1]]/\2=2/\(0:Int)<=x.1/\x.1<512/\(0:Int)<=x.2.1/\x.2.1<512/\x.2.2.length<4611686018427387904
theorem zmc:zf prog 64 zjg:=by
 refine zh' f64 λc hc O w0 Q hq=> ?_
 replace hq:=hq _ rfl;have hb:=hc;rw [Con.xg] at hb;obtain⟨hp0,hp1⟩:=zdt c.kind;refine zc.spine 12 ?_;refine zc.cutL (ι:={u:Unit // (1<=c.kind/\c.kind<=10)/\Nd.words c}) LN 6 0 (λ_=>SN1) (λ_=>HNd c) (by kernel_rfl) (by kernel_rfl) ?_ ?_
 ·refine zc.n GNd.h [1,5,6] (let v9:=[AV.i 2,AV.str c.dst,AV.ptr 0 0];let v8:=[AV.i 1,AV.str c.src,AV.ptr 0 0];let v7:=[AV.i 4,AV.str c.name,AV.ptr 0 0];let v6:=[AV.i 2,AV.ptr 0 0];let v5:List AV:=[.bool false];let v4:=[AV.fn 100 [] [.ptr 1 0]];let v3:=Con.src c=Con.dst c;let v2:List AV:=[.fn 100 [] [.ptr 1 0]];let v1:List (Nat×AV):=[(1,.ptr 0 0),(5,.ptr 2 0),(6,.fn 101 [] [.ptr 2 0])];.D ((1:Int)<=Con.kind c/\Con.kind c<=10) (.ite false (.R v5 [.box (Con.ze c),.box [.i (kL c.kind)]]) (.ex (q28 v8 [.box v4,.box [.i (kL c.kind)]]) λn=>let v26:=[AV.i n.1];let v17:List Blk:=[.box (Con.ze c),.box [.i n.1],.box v2];.all (λ(r:Bool)=>r=wG (bitB n.1 n.2.1) n.2.2) λn_1=>.ite ((!n_1) == false) (.ex (q28 v9 [.box v4,.box v26]) λn=>let v13:List Blk:=[.box (Con.ze c),.box [.i n.1],.box v2];.all (λ(r:Bool)=>r=wG (bitB n.1 n.2.1) n.2.2) λn_2=>.ite ((bif !n_1 then true else !n_2) == false) (.ex (q28 v7 [.box v4,.box [.i n.1]]) λn=>let v11:List Blk:=[.box (Con.ze c),.box [.i n.1],.box v2];.all (λ(r:Bool)=>r=wG (bitB n.1 n.2.1) n.2.2) λn_3=>.ite ((bif bif !n_1 then true else !n_2 then true else !n_3) == false) (.ex (q27 v6 [.box [.i n.1]]) λn=>let v10:List Blk:=[.box (Con.ze c),.box [.i n.1],.box v2];.all (λ(r:Bool)=>r=bitB n.1 n.2) λn_4=>.ite (bif bif bif !n_1 then true else !n_2 then true else !n_3 then true else bif n_4 then decide v3 else false) (.R v5 v10) (.leaf (.back 0 v1 v10))) (.ite (bif bif bif !n_1 then true else !n_2 then true else !n_3 then true else bif false then decide v3 else false) (.R v5 v11) (.leaf (.back 0 v1 v11)))) (.ite ((bif bif !n_1 then true else !n_2 then true else !false) == false) (.ex (q27 v6 [.box [.i n.1]]) λn=>let v12:List Blk:=[.box (Con.ze c),.box [.i n.1],.box v2];.all (λ(r:Bool)=>r=bitB n.1 n.2) λn_3=>.ite (bif bif bif !n_1 then true else !n_2 then true else !false then true else bif n_3 then decide v3 else false) (.R v5 v12) (.leaf (.back 0 v1 v12))) (.ite (bif bif bif !n_1 then true else !n_2 then true else !false then true else bif false then decide v3 else false) (.R v5 v13) (.leaf (.back 0 v1 v13))))) (.ite ((bif !n_1 then true else !false) == false) (.ex (q28 v7 [.box v4,.box v26]) λn=>let v15:List Blk:=[.box (Con.ze c),.box [.i n.1],.box v2];.all (λ(r:Bool)=>r=wG (bitB n.1 n.2.1) n.2.2) λn_2=>.ite ((bif bif !n_1 then true else !false then true else !n_2) == false) (.ex (q27 v6 [.box [.i n.1]]) λn=>let v14:List Blk:=[.box (Con.ze c),.box [.i n.1],.box v2];.all (λ(r:Bool)=>r=bitB n.1 n.2) λn_3=>.ite (bif bif bif !n_1 then true else !false then true else !n_2 then true else bif n_3 then decide v3 else false) (.R v5 v14) (.leaf (.back 0 v1 v14))) (.ite (bif bif bif !n_1 then true else !false then true else !n_2 then true else bif false then decide v3 else false) (.R v5 v15) (.leaf (.back 0 v1 v15)))) (.ite ((bif bif !n_1 then true else !false then true else !false) == false) (.ex (q27 v6 [.box v26]) λn=>let v16:List Blk:=[.box (Con.ze c),.box [.i n.1],.box v2];.all (λ(r:Bool)=>r=bitB n.1 n.2) λn_2=>.ite (bif bif bif !n_1 then true else !false then true else !false then true else bif n_2 then decide v3 else false) (.R v5 v16) (.leaf (.back 0 v1 v16))) (.ite (bif bif bif !n_1 then true else !false then true else !false then true else bif false then decide v3 else false) (.R v5 v17) (.leaf (.back 0 v1 v17))))))) (.ite true (.R v5 [.box (Con.ze c),.box [.i 0]]) (.ex (q28 v8 [.box v4,.box [.i 0]]) λn=>let v27:=[AV.i n.1];let v25:List Blk:=[.box (Con.ze c),.box [.i n.1],.box v2];.all (λ(r:Bool)=>r=wG (bitB n.1 n.2.1) n.2.2) λn_1=>.ite ((!n_1) == false) (.ex (q28 v9 [.box v4,.box v27]) λn=>let v21:List Blk:=[.box (Con.ze c),.box [.i n.1],.box v2];.all (λ(r:Bool)=>r=wG (bitB n.1 n.2.1) n.2.2) λn_2=>.ite ((bif !n_1 then true else !n_2) == false) (.ex (q28 v7 [.box v4,.box [.i n.1]]) λn=>let v19:List Blk:=[.box (Con.ze c),.box [.i n.1],.box v2];.all (λ(r:Bool)=>r=wG (bitB n.1 n.2.1) n.2.2) λn_3=>.ite ((bif bif !n_1 then true else !n_2 then true else !n_3) == false) (.ex (q27 v6 [.box [.i n.1]]) λn=>let v18:List Blk:=[.box (Con.ze c),.box [.i n.1],.box v2];.all (λ(r:Bool)=>r=bitB n.1 n.2) λn_4=>.ite (bif bif bif !n_1 then true else !n_2 then true else !n_3 then true else bif n_4 then decide v3 else false) (.R v5 v18) (.leaf (.back 0 v1 v18))) (.ite (bif bif bif !n_1 then true else !n_2 then true else !n_3 then true else bif false then decide v3 else false) (.R v5 v19) (.leaf (.back 0 v1 v19)))) (.ite ((bif bif !n_1 then true else !n_2 then true else !false) == false) (.ex (q27 v6 [.box [.i n.1]]) λn=>let v20:List Blk:=[.box (Con.ze c),.box [.i n.1],.box v2];.all (λ(r:Bool)=>r=bitB n.1 n.2) λn_3=>.ite (bif bif bif !n_1 then true else !n_2 then true else !false then true else bif n_3 then decide v3 else false) (.R v5 v20) (.leaf (.back 0 v1 v20))) (.ite (bif bif bif !n_1 then true else !n_2 then true else !false then true else bif false then decide v3 else false) (.R v5 v21) (.leaf (.back 0 v1 v21))))) (.ite ((bif !n_1 then true else !false) == false) (.ex (q28 v7 [.box v4,.box v27]) λn=>let v23:List Blk:=[.box (Con.ze c),.box [.i n.1],.box v2];.all (λ(r:Bool)=>r=wG (bitB n.1 n.2.1) n.2.2) λn_2=>.ite ((bif bif !n_1 then true else !false then true else !n_2) == false) (.ex (q27 v6 [.box [.i n.1]]) λn=>let v22:List Blk:=[.box (Con.ze c),.box [.i n.1],.box v2];.all (λ(r:Bool)=>r=bitB n.1 n.2) λn_3=>.ite (bif bif bif !n_1 then true else !false then true else !n_2 then true else bif n_3 then decide v3 else false) (.R v5 v22) (.leaf (.back 0 v1 v22))) (.ite (bif bif bif !n_1 then true else !false then true else !n_2 then true else bif false then decide v3 else false) (.R v5 v23) (.leaf (.back 0 v1 v23)))) (.ite ((bif bif !n_1 then true else !false then true else !false) == false) (.ex (q27 v6 [.box v27]) λn=>let v24:List Blk:=[.box (Con.ze c),.box [.i n.1],.box v2];.all (λ(r:Bool)=>r=bitB n.1 n.2) λn_2=>.ite (bif bif bif !n_1 then true else !false then true else !false then true else bif n_2 then decide v3 else false) (.R v5 v24) (.leaf (.back 0 v1 v24))) (.ite (bif bif bif !n_1 then true else !false then true else !false then true else bif false then decide v3 else false) (.R v5 v25) (.leaf (.back 0 v1 v25)))))))) ?_;simp only [q27,q28,Tree.holds,zd,inR,lo,hi,aD];obtain⟨b1,e1⟩:∃ b,wG (bitB c.p 1) c.src=b:=⟨_,rfl⟩;obtain⟨b2,e2⟩:∃ b,wG (bitB c.p 2) c.dst=b:=⟨_,rfl⟩;obtain⟨b3,e3⟩:∃ b,wG (bitB c.p 4) c.name=b:=⟨_,rfl⟩;obtain⟨b4,e4⟩:∃ b,bitB c.p 2=b:=⟨_,rfl⟩;obtain⟨b5,e5⟩:∃ b,decide (c.src=c.dst)=b:=⟨_,rfl⟩
  have hbad:¬ ((1<=c.kind/\c.kind<=10)/\Nd.words c)->∀ h,RetR zjg 0 Q [.bool false] h:=λhn h=>by
   have:c.xP=false:=YR hn;rw [this] at hq;exact RetR.scal hq rfl (by simp [resV])
  refine⟨λhk=>⟨λh=>(by cases h),λ_=> ?_⟩,λhk=> ?_⟩
  ·have hk:=aB hk;refine⟨(c.p,1,c.src),⟨by simp,by simp [Con.p],trivial,hp0,hp1,(by simp only; omega),(by simp only; omega),by simp only; omega⟩,⟨_,rfl⟩,?_⟩;rintro _ rfl;simp only [e1];cases b1 with
   | false=>exact⟨λh=>by simp at h,λ_=>⟨λh=>by simp at h,λ_=>⟨λh=>by simp at h,λ_=>⟨λ_=>hbad (λh=>by have:=h.2.1; rw [e1] at this; cases this) _,λh=>by simp at h⟩⟩⟩⟩
   | true=>
   refine⟨λ_=> ?_,λh=>by simp at h⟩;refine⟨(c.p,2,c.dst),⟨by simp,by simp [Con.p],trivial,hp0,hp1,(by simp only; omega),(by simp only; omega),by simp only; omega⟩,⟨_,rfl⟩,?_⟩;rintro _ rfl;simp only [e2];cases b2 with
   | false=>exact⟨λh=>by simp at h,λ_=>⟨λh=>by simp at h,λ_=>⟨λ_=>hbad (λh=>by have:=h.2.2.1; rw [e2] at this; cases this) _,λh=>by simp at h⟩⟩⟩
   | true=>
   refine⟨λ_=> ?_,λh=>by simp at h⟩;refine⟨(c.p,4,c.name),⟨by simp,by simp [Con.p],trivial,hp0,hp1,(by simp only; omega),(by simp only; omega),by simp only; omega⟩,⟨_,rfl⟩,?_⟩;rintro _ rfl;simp only [e3];cases b3 with
   | false=>exact⟨λh=>by simp at h,λ_=>⟨λ_=>hbad (λh=>by have:=h.2.2.2.1; rw [e3] at this; cases this) _,λh=>by simp at h⟩⟩
   | true=>
   refine⟨λ_=> ?_,λh=>by simp at h⟩;refine⟨(c.p,2),⟨by simp,by simp [Con.p],trivial,hp0,hp1,(by simp only; omega),(by simp only; omega)⟩,⟨_,rfl⟩,?_⟩;rintro _ rfl;simp only [e4];refine⟨λh=> ?_,λh=> ?_⟩
   ·refine hbad (λhn=>hn.2.2.2.2 ?_) _;cases b4 with
    | false=>simp at h
    | true=>exact⟨e4,by simpa using h⟩
   ·rw [aP trivial];refine⟨⟨(),hk,e1,e2,e3,λhh=> ?_⟩,by simp [SN1],⟨zE c,⟨⟨rfl,rfl⟩,trivial⟩,⟨rfl,trivial⟩,trivial⟩,by kernel_rfl,aI _⟩;rw [e4] at hh;rw [hh.1] at h;simp [hh.2] at h
  ·have hk:=aC hk;refine⟨λ_=>hbad (λh=>hk h.1) _,λh=>by cases h⟩
 ·rintro⟨_,hk,hw⟩;show zB none prog f64 O 0 w0 [] _ _ LN1 _;refine zc.cutL (ι:=Unit) LN1 1 0 (λ_=>SN2 (Nd.okX c)) (λ_=>HNd c) (by kernel_rfl) (by kernel_rfl) ?_ ?_
  ·refine zc.n GNd.h [1,4,5] (.ex (q27 [.i 8,.ptr 0 0] [.box [.i (Con.p c)]]) λn=>.all (λ(r:Bool)=>r=bitB n.1 n.2) λn_1=>.ite n_1 (.ex (q29 [(Ex.exA c.x)]) λn_2=>.all (λ(r:Bool)=>r=(decide (Ex.errX n_2=0)&&decide (Ex.zx n_2=1))) λn_3=>.leaf (.back 0 [(1,.ptr 0 0),(4,.bool n_3),(5,.ptr 2 0)] [.box (Con.ze c),.box [.i n.1],.box [.fn 100 [] [.ptr 1 0]]])) (.ex (q27 [.i 16,.ptr 0 0] [.box [.i n.1]]) λn=>let v1:List Blk:=[.box (Con.ze c),.box [.i n.1],.box [.fn 100 [] [.ptr 1 0]]];.all (λ(r:Bool)=>r=bitB n.1 n.2) λn_2=>.ite n_2 (.ex (q29 [(Ex.exA c.x)]) λn_3=>.all (λ(r:Bool)=>r=(decide (Ex.errX n_3=0)&&decide (Ex.zx n_3=2))) λn_4=>.leaf (.back 0 [(1,.ptr 0 0),(4,.bool n_4),(5,.ptr 2 0)] v1)) (.ex (q25 [(Ex.exA c.x)]) λn_3=>.all (λ(r:Bool)=>r=ja n_3) λn_4=>.leaf (.back 0 [(1,.ptr 0 0),(4,.bool n_4),(5,.ptr 2 0)] v1)))) ?_;simp only [q25,q27,q29,Tree.holds,zd,inR,lo,hi,aD];have hx1:c.x.size<2^40:=by omega
   have hx2:c.x.zJ<2^40:=by omega
   have leaf:∀ b,b=Nd.okX c->LeK 0 f64.ntmps [(1,.ptr 0 0),(4,.bool b),(5,.ptr 2 0)] (HNd c) (SN2 (Nd.okX c)) (HNd c):=λb hb=>by
    subst hb;exact⟨by simp [SN2],⟨zE c,⟨⟨rfl,rfl⟩,trivial⟩,⟨rfl,trivial⟩,trivial⟩,by kernel_rfl,aI _⟩
   refine⟨(c.p,8),⟨by simp,by simp,trivial,hp0,hp1,(by simp only; omega),(by simp only; omega)⟩,⟨_,rfl⟩,?_⟩;rintro _ rfl;refine⟨λh=> ?_,λh=> ?_⟩
   ·refine⟨c.x,⟨(by first | exact⟨jy _,trivial⟩ | simp [za]),hx1,hx2⟩,⟨_,rfl⟩,?_⟩;rintro _ rfl;rw [aP trivial];exact⟨(),leaf _ (by unfold Nd.okX; rw [aP h]; rfl)⟩
   ·have h8:¬ bitB c.p 8=true:=by simpa using h
    refine⟨(c.p,16),⟨by simp,by simp,trivial,hp0,hp1,(by simp only; omega),(by simp only; omega)⟩,⟨_,rfl⟩,?_⟩;rintro _ rfl;refine⟨λh=> ?_,λh=> ?_⟩
    ·refine⟨c.x,⟨(by first | exact⟨jy _,trivial⟩ | simp [za]),hx1,hx2⟩,⟨_,rfl⟩,?_⟩;rintro _ rfl;rw [aP trivial];exact⟨(),leaf _ (by unfold Nd.okX; rw [aO h8,aP h]; rfl)⟩
    ·refine⟨c.x,⟨(by first | exact⟨jy _,trivial⟩ | simp [za]),trivial⟩,⟨_,rfl⟩,?_⟩;rintro _ rfl;rw [aP trivial];exact⟨(),leaf _ (by unfold Nd.okX; rw [aO h8,aO (by simpa using h)])⟩
  ·rintro⟨⟩;obtain⟨a,ea⟩:∃ a,Nd.okX c=a:=⟨_,rfl⟩;rw [ea];show zB none prog f64 O 0 w0 [] _ _ LN2 _;refine zc.cutL (ι:=Unit) LN2 3 0 (λ_=>SN3 a (Nd.subs c)) (λ_=>HNd c) (by kernel_rfl) (by kernel_rfl) ?_ ?_
   ·refine zc.n GNd.h [1,4,5,7] (let v4:List (Nat×AV):=[(1,.ptr 0 0),(4,.bool a),(5,.ptr 2 0),(7,.i 2)];.ex (q27 [.i 128,.ptr 0 0] [.box [.i (Con.p c)]]) λn=>let v1:=q27 [.i 256,.ptr 0 0] [.box [.i n.1]];.all (λ(r:Bool)=>r=bitB n.1 n.2) λn_1=>.ite n_1 (.ex v1 λn=>let v2:List Blk:=[.box (Con.ze c),.box [.i n.1],.box [.fn 100 [] [.ptr 1 0]]];.all (λ(r:Bool)=>r=bitB n.1 n.2) λn_2=>.ite n_2 (.leaf (.back 0 v4 v2)) (.leaf (.back 0 [(1,.ptr 0 0),(4,.bool a),(5,.ptr 2 0),(7,.i 1)] v2))) (.ex v1 λn=>let v3:List Blk:=[.box (Con.ze c),.box [.i n.1],.box [.fn 100 [] [.ptr 1 0]]];.all (λ(r:Bool)=>r=bitB n.1 n.2) λn_2=>.ite n_2 (.leaf (.back 0 v4 v3)) (.leaf (.back 0 [(1,.ptr 0 0),(4,.bool a),(5,.ptr 2 0),(7,.i 0)] v3)))) ?_;simp only [q27,Tree.holds,zd,inR,lo,hi,aD]
    have leaf:∀ m:Int,m=Nd.subs c->LeK 0 f64.ntmps [(1,.ptr 0 0),(4,.bool a),(5,.ptr 2 0),(7,.i m)] (HNd c) (SN3 a (Nd.subs c)) (HNd c):=λm hm=>by
     subst hm;exact⟨by simp [SN3],⟨zE c,⟨⟨rfl,rfl⟩,trivial⟩,⟨rfl,trivial⟩,trivial⟩,by kernel_rfl,aI _⟩
    refine⟨(c.p,128),⟨by simp,by simp,trivial,hp0,hp1,(by simp only; omega),(by simp only; omega)⟩,⟨_,rfl⟩,?_⟩;rintro _ rfl;refine⟨λh1=> ?_,λh1=> ?_⟩
    all_goals
     refine⟨(c.p,256),⟨by simp,by simp,trivial,hp0,hp1,(by simp only; omega),(by simp only; omega)⟩,⟨_,rfl⟩,?_⟩;rintro _ rfl;refine⟨λh2=> ?_,λh2=> ?_⟩
     all_goals
      rw [aP trivial];simp only at h1 h2;exact⟨(),leaf _ (by unfold Nd.subs; simp [h1,h2])⟩
   ·rintro⟨⟩;show zB none prog f64 O 0 w0 [] _ _ LN3 _;obtain⟨m,em⟩:∃ m,Nd.subs c=m:=⟨_,rfl⟩;rw [em];refine zc.cutL (ι:=Unit) LN3 1 0 (λ_=>SN4 a m (Nd.right c)) (λ_=>HNd c) (by kernel_rfl) (by kernel_rfl) ?_ ?_
    ·refine zc.n GNd.h [1,4,5,7,8] (let v1:=Con.date c<=99999;.ex (q27 [.i 32,.ptr 0 0] [.box [.i (Con.p c)]]) λn=>.all (λ(r:Bool)=>r=bitB n.1 n.2) λn_1=>.ite ((bif n_1 then bif decide ((0:Int)<=Con.date c) then decide v1 else false else false) == false) (.ex (q27 [.i 32,.ptr 0 0] [.box [.i n.1]]) λn=>.all (λ(r:Bool)=>r=bitB n.1 n.2) λn_2=>.leaf (.back 0 [(1,.ptr 0 0),(4,.bool a),(5,.ptr 2 0),(7,.i m),(8,.bool (bif bif n_1 then bif decide ((0:Int)<=Con.date c) then decide v1 else false else false then true else bif !n_2 then decide (Con.date c=0) else false))] [.box (Con.ze c),.box [.i n.1],.box [.fn 100 [] [.ptr 1 0]]])) (.leaf (.back 0 [(1,.ptr 0 0),(4,.bool a),(5,.ptr 2 0),(7,.i m),(8,.bool (bif bif n_1 then bif decide ((0:Int)<=Con.date c) then decide v1 else false else false then true else bif !false then decide (Con.date c=0) else false))] [.box (Con.ze c),.box [.i n.1],.box [.fn 100 [] [.ptr 1 0]]]))) ?_;simp only [q27,Tree.holds,zd,inR,lo,hi,aD]
     have leaf:∀ b,b=Nd.right c->LeK 0 f64.ntmps [(1,.ptr 0 0),(4,.bool a),(5,.ptr 2 0),(7,.i m),(8,.bool b)] (HNd c) (SN4 a m (Nd.right c)) (HNd c):=λb hb=>by
      subst hb;exact⟨by simp [SN4],⟨zE c,⟨⟨rfl,rfl⟩,trivial⟩,⟨rfl,trivial⟩,trivial⟩,by kernel_rfl,aI _⟩
     refine⟨(c.p,32),⟨by simp,by simp,trivial,hp0,hp1,(by simp only; omega),(by simp only; omega)⟩,⟨_,rfl⟩,?_⟩;rintro _ rfl;refine⟨λh1=> ?_,λh1=> ?_⟩
     ·refine⟨(c.p,32),⟨by simp,by simp,trivial,hp0,hp1,(by simp only; omega),(by simp only; omega)⟩,⟨_,rfl⟩,?_⟩;rintro _ rfl;rw [aP trivial];refine⟨(),leaf _ ?_⟩;unfold Nd.right dayB;simp only;cases bitB c.p 32<;>simp [Bool.cond_eq_ite]
     ·rw [aP trivial];refine⟨(),leaf _ ?_⟩;unfold Nd.right dayB;simp only at h1 ⊢
      revert h1
      cases bitB c.p 32<;>simp [Bool.cond_eq_ite]
      exactλh1 h2 _=>⟨h1,h2⟩
    ·rintro⟨⟩;show zB none prog f64 O 0 w0 [] _ _ LN4 _;obtain⟨b,eb⟩:∃ b,Nd.right c=b:=⟨_,rfl⟩;rw [eb];refine zc.cutL (ι:=Unit) LN4 1 0 (λ_=>SN5 a m b (Nd.list c)) (λ_=>HNd c) (by kernel_rfl) (by kernel_rfl) ?_ ?_
     ·refine zc.n GNd.h [1,4,7,8,9] (.ex (q27 [.i 64,.ptr 0 0] [.box [.i (Con.p c)]]) λn=>.all (λ(r:Bool)=>r=bitB n.1 n.2) λn_1=>.ex (λ(x:List Int)=>n_1=true->q30 [.sl c.days.length 1 (Con.dayG c.days)] x) λn_2=>.all (λ(x:Bool)=>n_1=true->x=xN n_2) λn_3=>.ite ((bif n_1 then n_3 else false) == false) (.ex (q27 [.i 64,.ptr 0 0] [.box [.i n.1]]) λn=>.all (λ(r:Bool)=>r=bitB n.1 n.2) λn_4=>.leaf (.back 0 [(1,.ptr 0 0),(4,.bool a),(7,.i m),(8,.bool b),(9,.bool (bif bif n_1 then n_3 else false then true else bif !n_4 then decide ((c.days.length:Int)=0) else false))] [.box (Con.ze c),.box [.i n.1],.box [.fn 100 [] [.ptr 1 0]]])) (.leaf (.back 0 [(1,.ptr 0 0),(4,.bool a),(7,.i m),(8,.bool b),(9,.bool (bif bif n_1 then n_3 else false then true else bif !false then decide ((c.days.length:Int)=0) else false))] [.box (Con.ze c),.box [.i n.1],.box [.fn 100 [] [.ptr 1 0]]]))) ?_;simp only [q27,q30,Tree.holds,zd,inR,lo,hi,aD]
      have leaf:∀ d,d=Nd.list c->LeK 0 f64.ntmps [(1,.ptr 0 0),(4,.bool a),(7,.i m),(8,.bool b),(9,.bool d)] (HNd c) (SN5 a m b (Nd.list c)) (HNd c):=λd hd=>by
       subst hd;exact⟨by simp [SN5],⟨zE c,⟨⟨rfl,rfl⟩,trivial⟩,⟨rfl,trivial⟩,trivial⟩,by kernel_rfl,aI _⟩
      refine⟨(c.p,64),⟨by simp,by simp,trivial,hp0,hp1,(by simp only; omega),(by simp only; omega)⟩,⟨_,rfl⟩,?_⟩;rintro _ rfl;refine⟨c.days,λ_=>⟨by simp [za],by omega⟩,⟨_,λ_=>rfl⟩,λn hn=> ?_⟩;refine⟨λh1=> ?_,λh1=> ?_⟩
      ·refine⟨(c.p,64),⟨by simp,by simp,trivial,hp0,hp1,(by simp only; omega),(by simp only; omega)⟩,⟨_,rfl⟩,?_⟩;rintro _ rfl;rw [aP trivial];refine⟨(),leaf _ ?_⟩;unfold Nd.list;simp only at hn ⊢
       revert hn
       cases bitB c.p 64<;>simp [Bool.cond_eq_ite]
      ·rw [aP trivial];refine⟨(),leaf _ ?_⟩;unfold Nd.list;simp only at hn h1 ⊢
       revert hn h1
       cases bitB c.p 64<;>simp [Bool.cond_eq_ite]
       intro h2 h3;rw [<- h2,h3];rfl
     ·rintro⟨⟩;show zB none prog f64 O 0 w0 [] _ _ LN5 _;obtain⟨d,ed⟩:∃ d,Nd.list c=d:=⟨_,rfl⟩;rw [ed];refine zc.n GNd.h [1,4,7,8,9] (.R [.bool (bif bif bif a then b else false then d else false then decide ((c.sub.length:Int)=m) else false)] [.box (Con.ze c),.box [.i (Con.p c)],.box [.fn 100 [] [.ptr 1 0]]]) ?_;simp only [Tree.holds,zd,inR,lo,hi,aD]
      have hr:c.xP=(bif bif bif a then b else false then d else false then decide ((c.sub.length:Int)=m) else false):=by
       rw [Bool.eq_iff_iff,Vx hk,ea,em,eb,ed];cases a<;>cases b<;>cases d<;>simp [hw]
      rw [hr] at hq;exact RetR.scal hq rfl (by simp [resV])
end Go.Proofs.Tryz
end
section
set_option maxRecDepth 100000
open Go Go.Sx Go.Proofs Go.Nov
namespace Go.Proofs.Tryz
attribute [local simp] eqKV eqA eqA0 eqH eqB eqL eqL0
noncomputable def K39:=Go.Sx.aA f39
def y6:Ctr:=ctrP true (λc:Con=>[c.conA]) (λc=>c.big<2^40/\c.nodes<=1000000) (λc r=>r=c.errC) (λ_ (r:Int)=>(.i r,[]))
noncomputable def GCkk:=tb zld (tb zf9 (tb X4 (tb zmc tz)))
def HCk(c:Con)(m:Int):Heap:=[.box c.ze,.box [.i m],.box c.ze]
abbrev q31(A:List AV)(x:Con):Prop:=eqL A [(Con.conA x)]/\Con.big x<1099511627776/\Con.nodes x<=1000000
theorem yu:zf prog 39 y6:=by
 refine zh' f39 λc hc O w0 Q hq=> ?_
 obtain⟨h1,h2⟩:=hc;replace hq:=hq _ rfl;refine zc.n GCkk.h [2,13,14] (.ex (q31 [(Con.conA c)]) λn=>.all (λ(r:Nat)=>r=Con.size n) λn=>.ex (λ(x:Con)=>decide ((500:Int)<n)=false->eqL [(Con.conA c)] [(Con.conA x)]/\Con.big x<1099511627776) λn_1=>.all (λ(x:Nat)=>decide ((500:Int)<n)=false->x=Con.depth n_1) λn_2=>.ite (bif decide ((500:Int)<n) then true else decide ((60:Int)<n_2)) (.R [.i 4] [.box (Con.ze c),.box [.i 4]]) (.ex (λ(x:Con)=>eqL [(Con.conA c)] [(Con.conA x)]/\eqH [] []/\0=0/\True) λn=>.A λn_3=>.leaf (.range (Prod.fst (rfs K39 0)) (Prod.snd (rfs K39 0)) [(2,.ptr 1 0),(13,.fn 98 [] [.ptr 2 0]),Z 14] [.box (Con.ze c),.box [.i 0],.box (Con.ze n)]))) ?_;simp only [q31,Tree.holds,zd];have hq1:(500<c.size\/60<c.depth)->Q (.i 4,[]):=λh=>by unfold Con.errC at hq; rw [aP h] at hq; exact hq
 have hq2:¬ (500<c.size\/60<c.depth)->Q (.i (if c.form=true then 0 else 8),[]):=λh=>by unfold Con.errC at hq; rw [aO h] at hq; exact hq
 refine⟨c,⟨⟨qx c,trivial⟩,h1,h2⟩,⟨_,rfl⟩,?_⟩;rintro _ rfl;refine⟨c,λ_=>⟨⟨qx c,trivial⟩,h1⟩,⟨_,λ_=>rfl⟩,λn hn=> ?_⟩
 have key:(bif decide (500<(c.size:Int)) then true else decide (60<(n:Int)))=decide (500<c.size\/60<c.depth):=by
  by_cases g:500<c.size
  ·simp [g]; omega
  ·rw [hn (aW (by omega)),Bool.eq_iff_iff]; simp [g]; omega
 rw [key];refine⟨λh=>RetR.scal (hq1 (aB h)) rfl (by simp [resV]),λh=>⟨c,⟨⟨qx c,trivial⟩,trivial,trivial,trivial⟩,⟨(),trivial⟩,λ_ _=> ?_⟩⟩;have hq2:=hq2 (aC h);clear hq hq1
 refine zc.zrk (λpre:List Nat=>∀ i∈pre,(c.all.getD i c).xP=true) (tg:=13) (tp:=14) (td:=3) (t:=38) (n:=12) (zs:=[.int .u8 0,.str [],.str [],.str [],.int .u8 0,.str [],.str [],.i 0,.nils,.i 0,.nils,.nils]) (cap:=[.ptr 2 0]) (gf:=98) (by kernel_rfl) (by kernel_rfl) (by kernel_rfl) rfl (enters_of Tryz.func98 (by kernel_rfl) rfl) (λi:Nat=>(c.all.getD i c).conA) (λi=>(c.all.getD i c).ze) (λi=>⟨rfl,rfl,rfl,rfl⟩) (λ_=>HCk c 0) (λ_=>HCk c 8) (λpre=>¬ c.form=true) (λxs=>xs=List.range c.all.length) (λpre=>pre <+: List.range c.all.length) c.all.length 3
  (by kernel_rfl) (by decide +kernel) (by decide +kernel) (by decide +kernel) (by decide) ⟨by simp,⟨zE c,⟨⟨rfl,rfl⟩,trivial⟩,zE c,trivial⟩,by kernel_rfl,aI _⟩ (by kernel_rfl) (aI _) (by decide) (λi hi=>by cases hi) (λpre=>rfl) (λpre=>by simp [HCk,alive]) (λpre b hb=>by simp [HCk] at hb; rcases hb with rfl | rfl | rfl<;>trivial) ?_ ?_ ?_ ?_
 ·intro w σ a hm vb hvb;exact J0 hm (i:=2) rfl h2 hvb
 ·intro l pre i hI hlen W E1
  have hwt:(c.all.getD i c).big<=c.big/\(c.all.getD i c)∈c.all:=by
   by_cases hi:i<c.all.length
   ·have:(c.all.getD i c)∈c.all:=by simp [List.getD,hi]
    exact⟨Con.QN c _ this,this⟩
   ·have:c.all.getD i c=c:=by simp [List.getD,hi]
    rw [this];exact⟨aJ _,by rw [Con.all_eq]; simp⟩
  obtain⟨e,he⟩:∃ e,c.all.getD i c=e:=⟨_,rfl⟩;rw [he] at hwt ⊢;refine zc.n GCkk.h [2,13,14] (.ex (λ(x:Con)=>eqL [(Con.conA e)] [(Con.conA x)]/\Con.big x<1099511627776) λn=>.all (λ(r:Bool)=>r=Con.xP n) λn=>.ite (!n) (.R [] [.box (Con.ze c),.box [.i 8],.box (Con.ze c)]) (.leaf (.back 0 [(2,.ptr 1 0),(13,.fn 98 [] [.ptr 2 0]),(14,(Con.conA e))] [.box (Con.ze c),.box [.i 0],.box (Con.ze c)]))) ?_;simp only [Tree.holds,zd,inR,lo,hi,aD];refine⟨e,⟨⟨qx e,trivial⟩,by omega⟩,⟨_,rfl⟩,?_⟩;rintro _ rfl;refine⟨λh=>⟨λhf=> ?_,?_⟩,λh=>⟨λj hj=> ?_,?_⟩⟩
  ·rw [Con.WE,bG] at hf;have:=hf e hwt.2;simp [this] at h
  ·exact⟨trivial,⟨zE c,⟨⟨rfl,rfl⟩,trivial⟩,zE c,trivial⟩,by kernel_rfl,aJ _⟩
  ·rcases cA.1 hj with hj | hj
   ·exact hI j hj
   ·rw [List.mem_singleton.1 hj,he]; simpa using h
  ·exact⟨trivial,⟨zE c,⟨⟨rfl,rfl⟩,trivial⟩,zE c,trivial⟩,by kernel_rfl,aJ _⟩
 ·intro xs hxs hI
  have hform:c.form=true:=by
   rw [Con.WE,bG];intro e hem;obtain⟨j,hj,rfl⟩:=List.getElem_of_mem hem;have:=hI j (by rw [hxs]; simpa using hj);simpa [List.getD,hj] using this
  rw [aP hform] at hq2;refine zc.n GCkk.h [2,13,14] (.R [.i 0] [.box (Con.ze c),.box [.i 0],.box (Con.ze c)]) ?_;simp only [Tree.holds,zd];exact RetR.scal hq2 rfl (by simp [resV])
 ·intro pre hpre hX;rw [aO hX] at hq2;exact(RetR.scal hq2 rfl (by simp [resV]):RetR y6 0 Q [.i 8] (HCk c 8))
end Go.Proofs.Tryz
end
section
namespace Go.Nov
open Go.Sx
theorem zjq(n sz:Nat)(g g':Nat->Nat->AV):eqG (0+n) sz (appG 0 g g') g':=by
 intro j o _ _;simp [appG]
theorem VH{α:Type}{p:α->Bool}(z:α)(l:List α):idxB p l<l.length/\l.find? p=if 0<=idxB p l then some (l.getD (idxB p l).toNat z) else none:=by
 unfold idxB;by_cases h:l.findIdx p<l.length
 ·rw [aP h];refine⟨by omega,?_⟩;rw [aP (by omega),aD];refine zoq h ?_ λj hj=> ?_
  ·have:=List.findIdx_getElem (w:=h);simpa [List.getD,h] using this
  ·have:=List.not_of_lt_findIdx hj;have hjl:j<l.length:=by omega
   simpa [List.getD,hjl] using this
 ·rw [aO h];refine⟨by omega,?_⟩;rw [aO (by omega),List.find?_eq_none];intro x hx hpx;exact h (List.findIdx_lt_length_of_exists ⟨x,hx,hpx⟩)
theorem zga(f:List Fx)(a:L8)(d:Int):idxB (λx=>decide (cmpF x ⟨a,d,[]⟩=0)) f<f.length/\vZ f a d=if 0<=idxB (λx=>decide (cmpF x ⟨a,d,[]⟩=0)) f then((f.getD (idxB (λx=>decide (cmpF x ⟨a,d,[]⟩=0)) f).toNat Fx.nil).value,true) else([],false):=by
 obtain⟨h1,h2⟩:=VH (p:=λx=>decide (cmpF x ⟨a,d,[]⟩=0)) Fx.nil f;refine⟨h1,?_⟩
 have e:(λx:Fx=>decide (x.name=a)&&decide (x.date=d))=λx=>decide (cmpF x ⟨a,d,[]⟩=0):=by
  funext x;rw [<- Bool.decide_and]; exact decide_eq_decide.2 (@zm6 x ⟨a,d,[]⟩).symm
 unfold vZ;rw [e,h2];by_cases h:0<=idxB (λx=>decide (cmpF x ⟨a,d,[]⟩=0)) f
 ·rw [aP h,aP h]
 ·rw [aO h,aO h]
theorem U3(c:List Ch)(a v:L8)(d:Int):idxB (λx=>decide (cmpC x ⟨a,v,d,false⟩=0)) c<c.length/\qi c a v d=if 0<=idxB (λx=>decide (cmpC x ⟨a,v,d,false⟩=0)) c then(c.getD (idxB (λx=>decide (cmpC x ⟨a,v,d,false⟩=0)) c).toNat Ch.nil).first else false:=by
 obtain⟨h1,h2⟩:=VH (p:=λx=>decide (cmpC x ⟨a,v,d,false⟩=0)) Ch.nil c;refine⟨h1,?_⟩
 have e:(λx:Ch=>decide (x.qn=a)&&(decide (x.name=v)&&decide (x.date=d)))=λx=>decide (cmpC x ⟨a,v,d,false⟩=0):=by
  funext x;rw [<- Bool.decide_and,<- Bool.decide_and]; exact decide_eq_decide.2 (@zni x ⟨a,v,d,false⟩).symm
 unfold qi;rw [e,h2];by_cases h:0<=idxB (λx=>decide (cmpC x ⟨a,v,d,false⟩=0)) c
 ·rw [aP h,aP h]
 ·rw [aO h,aO h]
end Go.Nov
end
section
set_option maxRecDepth 100000
open Go Go.Sx Go.Proofs Go.Nov
namespace Go.Proofs.Tryz
attribute [local simp] eqKV eqA eqA0 eqH eqB eqL eqL0
noncomputable def K38:=Go.Sx.aA f38
theorem zeu(n sz:Nat)(g g':Nat->Nat->AV):eqG (0+n) sz (appG 0 g g') g':=zjq n sz g g'
def zbn:Ctr:=ctrP false (λl:List Int=>[Con.dayS l]) (λl=>l.length<2^40) (λ_ (_:Unit)=>True) (λl _=>(.osl 0 1 0 l.length,[.arr l.length 1 (Con.dayG l)]))
theorem zef:zf prog 60 zbn:=by
 refine QZ (fn:=f60) (c:=f60.body.getD .skip) rfl rfl rfl λl hl O w0 Q hq=> ?_
 replace hq:=hq () trivial;refine zc.n zH [] (.all (λ(b:Bool)=>0<l.length->b=false) λn=>.ite n (.R [.nils] []) (.side (0=0/\0<=0/\(0+l.length)*8<=140737488355328) (.R [.osl 0 1 0 (0+l.length)] [.arr (0+l.length) 1 (appG 0 (zi 1 []) (Con.dayG l))]))) ?_;simp only [Tree.holds,zd];refine⟨⟨false,λ_=>rfl⟩,λb hb=>⟨λh=> ?_,λh=>⟨⟨trivial,aJ _,by omega⟩,λ_=> ?_⟩⟩⟩
 ·have h0:l=[]:=by
   rcases bC l.length with h0 | h0
   ·exact aU.1 h0
   ·rw [hb h0] at h; cases h
  subst h0;refine RetR.scal (.inr ⟨.osl 0 1 0 0,[(1,Con.dayG [])],by simp [upA2,upA1,upA0],?_⟩) (r:=.nils) rfl (by simp [resV]);exact hq
 ·refine RetR.outs [0] rfl rfl (.inl hq) (λh=>by cases h) ?_ ?_ rfl
  ·simp [resV,exp2,exp1,exp0,zG,eqA2,eqL1]
  ·exact⟨⟨by omega,rfl,zeu _ _ _ _⟩,trivial⟩
def JL(n:Nat):Ctr:=ctrP false (λc:Con=>[c.conA]) (λc=>c.nodes<n/\c.big<2^38) (λ_ (_:Unit)=>True) (λc _=>(c.conD,[]))
noncomputable def GTw0:=tb zhc (tb zef tz)
noncomputable def GTwc(n:Nat):Nat->Option Ctr:=λf=>if f=38 then some (JL n) else GTw0.g f
theorem zcr{n:Nat}(ih:zf prog 38 (JL n)):∀ g c,GTwc n g=some c->zf prog g c:=λg c h=>by
 unfold GTwc at h;split at h
 ·rename_i e; cases h; subst e; exact ih
 ·exact GTw0.h g c h
def STc(c:Con)(i:Nat):KV:=[(1,.ptr 0 0),(2,.ptr 1 0),(3,.osl 3 12 0 i),(15,Con.conS c.sub),(16,.i (c.sub.length:Int)),(17,.i (i:Int))]
def BTc(c:Con)(s:AV):Blk:=.box [.int .u8 c.kind,.str c.src,.str c.dst,.str c.name,.int .u8 c.x.kind,.str c.x.rat,.str c.x.name,.i c.x.date,.sl c.x.sub.length 5 c.x.deep,.i c.date,.osl 2 1 0 c.days.length,s]
def BTz:Blk:=.box [.int .u8 0,.str [],.str [],.str [],.int .u8 0,.str [],.str [],.i 0,.nils,.i 0,.nils,.nils]
def RTc(c:Con):List AV:=[c.outD (.sl c.x.sub.length 5 c.x.deep) (.osl 2 1 0 c.days.length) (.osl 3 12 0 c.sub.length)]
def HTc(c:Con)(i:Nat):Heap:=[BTc c (Con.conS c.sub),BTz,.arr c.days.length 1 (Con.dayG c.days),.arr i 12 (Con.conG c.sub)]
theorem zey{s:List Con}{i:Nat} : eqG (i+1) 12 (appG i (Con.conG s) (zg (zi 12 [.int .u8 (s.getD i Con.nil).kind,.str (s.getD i Con.nil).src,.str (s.getD i Con.nil).dst,.str (s.getD i Con.nil).name,.int .u8 (s.getD i Con.nil).x.kind,.str (s.getD i Con.nil).x.rat,.str (s.getD i Con.nil).x.name,.i (s.getD i Con.nil).x.date,.sl (s.getD i Con.nil).x.sub.length 5 (Ex.exG (s.getD i Con.nil).x.sub),.i (s.getD i Con.nil).date,.sl (s.getD i Con.nil).days.length 1 (Con.dayG (s.getD i Con.nil).days),.sl (s.getD i Con.nil).sub.length 12 (s.getD i Con.nil).deep]) 0)) (Con.conG s):=by
 intro j o hj ho;simp only [appG,zg,zi];by_cases h:j<i
 ·rw [aP h]
 ·have:j=i:=by omega
  subst this;rw [aO h];have e:j - j=0:=by omega
  match o,ho with
  | 0,_=>simp [e,Con.conG,Con.cell]
  | 1,_=>simp [e,Con.conG,Con.cell]
  | 2,_=>simp [e,Con.conG,Con.cell]
  | 3,_=>simp [e,Con.conG,Con.cell]
  | 4,_=>simp [e,Con.conG,Con.cell]
  | 5,_=>simp [e,Con.conG,Con.cell]
  | 6,_=>simp [e,Con.conG,Con.cell]
  | 7,_=>simp [e,Con.conG,Con.cell]
  | 8,_=>simp [e,Con.conG,Con.cell]
  | 9,_=>simp [e,Con.conG,Con.cell]
  | 10,_=>simp [e,Con.conG,Con.cell]
  | 11,_=>simp [e,Con.conG,Con.cell]
theorem znb(n:Nat)(ih:zf prog 38 (JL n)){O:Nat->Prop}{w0:World}{C:Ctr}{Q:AV×Heap->Prop}(c:Con)(h1:c.nodes<n+1)(h2:c.big<2^38)(hR:∀ h:Heap,h[2]?=some (.arr c.days.length 1 (Con.dayG c.days))->h[3]?=some (.arr c.sub.length 12 (Con.conG c.sub))->RetR C 0 Q (RTc c) h) :
  zc prog f38 O 0 w0 [] (λ_ _ _=>False) (RetR C 0 Q) K38 (entry f38 [c.conA]):=by
 refine zc.n (zcr ih) [1,2,3,15,16,17] (.ex (λ(x:Ex)=>eqL [(Ex.exA c.x)] [x.exA]/\Ex.size x<1099511627776) λn=>.A λn_1=>.ex (q30 [.sl c.days.length 1 (Con.dayG c.days)]) λn_2=>.A λn_3=>.leaf (.loop (lps K38 0).1 (lps K38 0).2 [(1,.ptr 0 0),(2,.ptr 1 0),(3,.nils),(15,.sl c.sub.length 12 (Con.conG c.sub)),(16,.i c.sub.length),(17,.i 0)] [.box [.int .u8 c.kind,.str c.src,.str c.dst,.str c.name,.int .u8 n.kind,.str n.rat,.str n.name,.i n.date,.sl n.sub.length 5 n.deep,.i c.date,.osl 2 1 0 n_2.length,.sl c.sub.length 12 (Con.conG c.sub)],.box [.int .u8 0,.str #[].toList,.str #[].toList,.str #[].toList,.int .u8 0,.str #[].toList,.str #[].toList,.i 0,.nils,.i 0,.nils,.nils],.arr n_2.length 1 (Con.dayG n_2)])) ?_;simp only [q30,Tree.holds,zd,inR,lo,hi,aD];have hb:=h2;rw [Con.xg] at hb;refine⟨c.x,⟨⟨jy c.x,trivial⟩,by show c.x.size<_; omega⟩,⟨(),trivial⟩,λ_ _=>⟨c.days,⟨by simp [za],by omega⟩,⟨(),trivial⟩,λ_ _=> ?_⟩⟩;refine zc.bear 3 12 (Con.conG c.sub) rfl (by decide) (by kernel_rfl) ?_;refine zc.loop (ι:={i:Nat // i<=c.sub.length}) (λi=>STc c i.1) (λi=>HTc c i.1) (λi=>c.sub.length - i.1) ⟨0,aI _⟩ 0 ?_ ?_ (by kernel_rfl)
 ·refine⟨by simp [STc,yR,Con.conS,za],?_,by kernel_rfl,aI _⟩;simp [HTc,BTc,BTz,Con.conS,za]
 ·rintro⟨i,hil⟩;refine zc.n (zcr ih) [1,2,3,15,16,17] (let v3:=Con.conG c.sub;let v2:=List.getD c.sub (i:Int).toNat Con.nil;let v1:List AV:=[.int .u8 c.kind,.str c.src,.str c.dst,.str c.name,.int .u8 (Ex.kind c.x),.str (Ex.rat c.x),.str (Ex.name c.x),.i (Ex.date c.x),.sl (List.length (Ex.sub c.x)) 5 (Ex.deep c.x),.i c.date,.osl 2 1 0 c.days.length,.osl 3 12 0 i];.D ((i:Int)<(c.sub.length:Int)) (.side ((0:Int)<=i/\(i:Int)<(c.sub.length:Int)) (.ex (λ(x:Con)=>eqL [(Con.conD v2)] [(Con.conA x)]/\Con.nodes x<n/\Con.big x<274877906944) λn=>.A λn_1=>.side (0=0/\i<=i/\(i+1)*184<=140737488355328) (.S (i+1) (.leaf (.back 0 [(1,.ptr 0 0),(2,.ptr 1 0),(3,.osl 3 12 0 (i+1)),(15,.sl c.sub.length 12 v3),(16,.i c.sub.length),(17,.i (i+1))] [.box [.int .u8 c.kind,.str c.src,.str c.dst,.str c.name,.int .u8 (Ex.kind c.x),.str (Ex.rat c.x),.str (Ex.name c.x),.i (Ex.date c.x),.sl (List.length (Ex.sub c.x)) 5 (Ex.deep c.x),.i c.date,.osl 2 1 0 c.days.length,.sl c.sub.length 12 v3],.box [.int .u8 0,.str [],.str [],.str [],.int .u8 0,.str [],.str [],.i 0,.nils,.i 0,.nils,.nils],.arr c.days.length 1 (Con.dayG c.days),.arr (i+1) 12 (appG i v3 (zg (zi 12 (Con.zp n)) 0)),.box (Con.zp v2),.arr 1 12 (zi 12 (Con.zp n))]))))) (.R [.agg v1] [.box v1,.box v1,.arr c.days.length 1 (Con.dayG c.days),.arr i 12 v3])) ?_;simp only [Tree.holds,zd,inR,lo,hi,aD];have hlb:=Con.xW c.sub;refine⟨λhlt=> ?_,λhge=> ?_⟩
  ·have hlt:i<c.sub.length:=by have:=aB hlt; omega
   have g1:=Con.jA hlt;have g2:=Con.ye hlt;rw [Con.wo] at h1;refine⟨by omega,λ_=>⟨c.sub.getD i Con.nil,⟨⟨vg _,trivial⟩,by omega,by omega⟩,⟨(),trivial⟩,λ_ _=> ?_⟩⟩;refine⟨⟨trivial,aJ _,by omega⟩,λ_=>⟨by omega,λ_=> ?_⟩⟩;rw [aP trivial];refine⟨⟨i+1,hlt⟩,by show c.sub.length - (i+1)<c.sub.length - i; omega,by simp [STc,Con.conS,za],?_,by kernel_rfl,aI _⟩;refine⟨?_,?_,⟨rfl,rfl,za _ _ _⟩,⟨rfl,rfl,zey⟩,trivial⟩
   ·simp [BTc,Con.conS,za]
   ·simp [BTz]
  ·have hge:i=c.sub.length:=by have:=aC hge; omega
   subst hge;exact hR _ rfl rfl
theorem x8(n sz:Nat)(g:Nat->Nat->AV):eqG n sz (zg g 0) g:=λj o _ _=>by simp [zg]
theorem zsz{C:Ctr}{Q:AV×Heap->Prop}{c:Con}{h:Heap}(hC:C.fresh=false)(h2:h[2]?=some (.arr c.days.length 1 (Con.dayG c.days)))(h3:h[3]?=some (.arr c.sub.length 12 (Con.conG c.sub)))(hq:Q (c.conD,[])):RetR C 0 Q (RTc c) h:=by
 refine RetR.out0 hq (λh=>by rw [hC] at h; cases h) ?_;simp only [RTc,Con.outD,resV,exp2,exp1,List.map_cons,List.map_nil,exp0,ren0,zG,frz1,wg,h2,h3,eqA2,eqA,eqL0,eqA0,Con.conD,Con.dayS,Ex.exS,true_and,and_true];simp only [if_true];exact⟨Ex.qp _,⟨trivial,trivial,x8 _ _ _⟩,trivial,trivial,λj o hj ho=>by have:=Con.qp c j o hj ho; simpa [zg] using this.symm⟩
theorem zo3(n:Nat)(ih:zf prog 38 (JL n)):zf prog 38 (JL (n+1)):=by
 refine zh' f38 λc hx O w0 Q hq=> ?_
 exact znb n ih c hx.1 hx.2 λh a b=>zsz rfl a b (hq () trivial)
def WI:Ctr:=ctrP false (λc:Con=>[c.conA]) (λc=>c.big<2^38) (λ_ (_:Unit)=>True) (λc _=>(c.conD,[]))
theorem zqa:zf prog 38 WI:=jB Con.nodes zo3
noncomputable def K57:=Go.Sx.aA f57
noncomputable def K28:=Go.Sx.aA f28
def zjk:Ctr:=ctrP true (λp:List Int×List Int=>[Con.dayS p.1,Con.dayS p.2]) (λp=>p.1.length<2^40) (λp r=>(r=true↔p.1=p.2)) (λ_ (r:Bool)=>(.bool r,[]))
def SSd(l m:List Int)(i:Nat):KV:=[(0,Con.dayS l),(1,Con.dayS m),(5,.i (i:Int))]
theorem zho:zf prog 57 zjk:=by
 refine zh' f57 λp hp O w0 Q hq=> ?_
 obtain⟨l,m⟩:=p;simp only at hp hq;refine zc.n zH [0,1,5] (.N ((l.length:Int)=m.length) (.R [.bool false] []) (.leaf (.loop (lps K57 0).1 (lps K57 0).2 [(0,.sl l.length 1 (Con.dayG l)),(1,.sl m.length 1 (Con.dayG m)),(5,.i 0)] []))) ?_;simp only [Tree.holds,zd,inR,lo,hi,aD];refine⟨λh=> ?_,λh=> ?_⟩
 ·refine RetR.scal (hq false ⟨λh=>(by cases h),λhe=> ?_⟩) rfl (by simp [resV]);subst he;simp at h
 ·have hl:l.length=m.length:=by simp at h; omega
  refine zc.loop (ι:={i:Nat // i<=l.length/\∀ j,j<i->l.getD j 0=m.getD j 0}) (λi=>SSd l m i.1) (λ_=>[]) (λi=>l.length - i.1) ⟨0,aI _,λj hj=>by omega⟩ 0 ?_ ?_ (by kernel_rfl)
  ·exact⟨by simp [SSd,Con.dayS,za],trivial,by kernel_rfl,aI _⟩
  ·rintro⟨i,hil,hib⟩;refine zc.n zH [0,1,5] (.D ((i:Int)<l.length) (.side ((0:Int)<=i/\(i:Int)<l.length) (.side ((0:Int)<=i/\(i:Int)<m.length) (.N (l.getD (i:Int).toNat (0:Int)=List.getD m (i:Int).toNat (0:Int)) (.R [.bool false] []) (.S (i+1) (.leaf (.back 0 [(0,.sl l.length 1 (Con.dayG l)),(1,.sl m.length 1 (Con.dayG m)),(5,.i (i+1))] [])))))) (.R [.bool true] [])) ?_;simp only [Tree.holds,zd,inR,lo,hi,aD];refine⟨λhlt=> ?_,λhge=> ?_⟩
   ·have hlt:i<l.length:=by have:=aB hlt; omega
    refine⟨by omega,λ_=>⟨by omega,λ_=>⟨λg=> ?_,λg=>⟨by omega,λ_=> ?_⟩⟩⟩⟩
    ·refine RetR.scal (hq false ⟨λh=>(by cases h),λh3=> ?_⟩) rfl (by simp [resV]);subst h3; simp at g
    ·have g:l.getD i 0=m.getD i 0:=by simpa using g
     rw [aP trivial];refine⟨⟨i+1,hlt,λj hj=> ?_⟩,by show l.length - (i+1)<l.length - i; omega,by simp [SSd,Con.dayS,za],trivial,by kernel_rfl,aI _⟩;rcases aR j i with h1 | h1
     ·exact hib j h1
     ·have:j=i:=by omega
      rw [this]; exact g
   ·have hge:i=l.length:=by have:=aC hge; omega
    subst hge;refine RetR.scal (hq true ⟨λ_=> ?_,λ_=>rfl⟩) rfl (by simp [resV]);apply List.ext_getElem hl;intro j g1 g2;have:=hib j g1;simpa [List.getD,g1,g2] using this
theorem zb5(p:Prop):∃ b:Bool,(b=true↔p):=by
 classical
 exact⟨decide p,by simp⟩
def KY(n:Nat):Ctr:=ctrP true (λp:Con×Con=>[p.1.conA,p.2.conA]) (λp=>p.1.nodes<n/\p.1.big<2^40) (λp r=>(r=true↔p.1=p.2)) (λ_ (r:Bool)=>(.bool r,[]))
noncomputable def GSc0:=tb zea (tb zho tz)
noncomputable def GScn(n:Nat):Nat->Option Ctr:=λf=>if f=28 then some (KY n) else GSc0.g f
theorem zbe{n:Nat}(ih:zf prog 28 (KY n)):∀ g c,GScn n g=some c->zf prog g c:=λg c h=>by
 unfold GScn at h;split at h
 ·rename_i e; cases h; subst e; exact ih
 ·exact GSc0.h g c h
def SSc(i:Nat):KV:=[(2,.ptr 0 0),(3,.ptr 1 0),(5,.i (i:Int)),Z 73,Z 74,Z 75,Z 76,Z 77]
abbrev q33(A:List AV)(x:List Int×List Int):Prop:=eqL A [.sl x.1.length 1 (Con.dayG x.1),.sl x.2.length 1 (Con.dayG x.2)]/\x.1.length<1099511627776
abbrev q32(A:List AV)(x:Ex×Ex):Prop:=eqL A [x.1.exA,x.2.exA]/\Ex.size x.1<1152921504606846976
theorem Un(n:Nat)(ih:zf prog 28 (KY n)):zf prog 28 (KY (n+1)):=by
 refine zh' f28 λp hp O w0 Q hq=> ?_
 obtain⟨a,b⟩:=p;obtain⟨h1,h2⟩:=hp;simp only at h1 h2 hq;refine zc.n (zbe ih) [2,3,5,73,74,75,76,77] (.ite (bif bif bif bif bif !decide (Con.kind a=Con.kind b) then true else !decide (Con.src a=Con.src b) then true else !decide (Con.dst a=Con.dst b) then true else !decide (Con.name a=Con.name b) then true else !decide (Con.date a=Con.date b) then true else !decide ((a.sub.length:Int)=(b.sub.length:Int))) (.R [.bool false] [.box (Con.ze a),.box (Con.ze b)]) (.leaf (.loop (lps K28 0).1 (lps K28 0).2 [(2,.ptr 0 0),(3,.ptr 1 0),(5,.i 0),Z 73,Z 74,Z 75,Z 76,Z 77] [.box (Con.ze a),.box (Con.ze b)]))) ?_;simp only [Tree.holds,zd,inR,lo,hi,aD];have hb:=h2;rw [Con.xg] at hb;have hlb:=Con.xW a.sub;refine⟨λh=> ?_,λh=> ?_⟩
 ·refine RetR.scal (hq false ⟨λh=>(by cases h),λhe=> ?_⟩) rfl (by simp [resV]);subst he;simp at h
 ·simp at h;obtain⟨⟨⟨⟨⟨g1,g2⟩,g3⟩,g4⟩,g5⟩,g6⟩:=h;have g6:a.sub.length=b.sub.length:=by omega
  refine zc.loop (ι:={i:Nat // i<=a.sub.length/\∀ j,j<i->a.sub.getD j Con.nil=b.sub.getD j Con.nil}) (λi=>SSc i.1) (λ_=>[.box a.ze,.box b.ze]) (λi=>a.sub.length - i.1) ⟨0,aI _,λj hj=>by omega⟩ 0 ?_ ?_ (by kernel_rfl)
  ·exact⟨by simp [SSc],⟨zE a,zE b,trivial⟩,by kernel_rfl,aI _⟩
  ·rintro⟨i,hil,hib⟩;refine zc.n (zbe ih) [2,3,5,73,74,75,76,77] (let v1:List Blk:=[.box (Con.ze a),.box (Con.ze b)];.D ((i:Int)<(a.sub.length:Int)) (.side ((0:Int)<=i/\(i:Int)<(a.sub.length:Int)) (.side ((0:Int)<=i/\(i:Int)<(b.sub.length:Int)) (.ex (λ(x:Con×Con)=>eqL [(Con.conD (List.getD a.sub (i:Int).toNat Con.nil)),(Con.conD (List.getD b.sub (i:Int).toNat Con.nil))] [(Con.conA x.1),(Con.conA x.2)]/\Con.nodes x.1<n/\Con.big x.1<1099511627776) λn=>.all (λ(r:Bool)=>r=true↔n.1=n.2) λn=>.ite (!n) (.R [.bool false] v1) (.S (i+1) (.leaf (.back 0 [(2,.ptr 0 0),(3,.ptr 1 0),(5,.i (i+1)),Z 73,Z 74,Z 75,Z 76,Z 77] v1)))))) (.ex (q32 [(Ex.exA a.x),(Ex.exA b.x)]) λn=>.all (λ(r:Bool)=>r=true↔n.1=n.2) λn=>.ex (λ(x:List Int×List Int)=>n=true->q33 [.sl a.days.length 1 (Con.dayG a.days),.sl b.days.length 1 (Con.dayG b.days)] x) λn_1=>.all (λ(x:Bool)=>n=true->(x=true↔n_1.1=n_1.2)) λn_2=>.R [.bool (bif n then n_2 else false)] v1)) ?_;simp only [q32,q33,Tree.holds,zd,inR,lo,hi,aD];refine⟨λhlt=> ?_,λhge=> ?_⟩
   ·have hlt:i<a.sub.length:=by have:=aB hlt; omega
    have e1:=Con.jA hlt;have e2:=Con.ye hlt;rw [Con.wo] at h1;refine⟨by omega,λ_=>⟨by omega,λ_=>⟨(a.sub.getD i Con.nil,b.sub.getD i Con.nil),⟨⟨vg _,vg _,trivial⟩,by simp only; omega,by simp only; omega⟩,zb5 _,?_⟩⟩⟩;intro e he;simp only at he;refine⟨λg=> ?_,λg=>⟨by omega,λ_=> ?_⟩⟩
    ·refine RetR.scal (hq false ⟨λh=>(by cases h),λh3=> ?_⟩) rfl (by simp [resV]);have:e=true:=he.2 (by rw [h3]);rw [this] at g; cases g
    ·rw [aP trivial];have g:e=true:=by simpa using g
     refine⟨⟨i+1,hlt,λj hj=> ?_⟩,by show a.sub.length - (i+1)<a.sub.length - i; omega,by simp [SSc],⟨zE a,zE b,trivial⟩,by kernel_rfl,aI _⟩;rcases aR j i with h1 | h1
     ·exact hib j h1
     ·have:j=i:=by omega
      rw [this]; exact he.1 g
   ·have hge:i=a.sub.length:=by have:=aC hge; omega
    subst hge;have hls:=Con.xf g6 hib;refine⟨(a.x,b.x),⟨⟨jy a.x,jy b.x,trivial⟩,by simp only; omega⟩,zb5 _,λe1 h1=> ?_⟩;refine⟨(a.days,b.days),λ_=>⟨by simp [za],by simp only; omega⟩,?_,λe2 h2=> ?_⟩
    ·obtain⟨b,hb⟩:=zb5 (a.days=b.days);exact⟨b,λ_=>hb⟩
    ·refine RetR.scal (hq (bif e1 then e2 else false) ?_) rfl (by simp [resV]);rw [Con.xL];simp only at h1 h2;cases e1 with
     | false=>simp only [cond_false]; exact⟨λh=>(by cases h),λh=>by have:=h1.2 h.2.2.2.2.1; cases this⟩
     | true=>
      rw [cond_true,h2 rfl];exact⟨λh=>⟨g1,g2,g3,g4,h1.1 rfl,g5,h,hls⟩,λh=>h.2.2.2.2.2.2.1⟩
def Uf:Ctr:=ctrP true (λp:Con×Con=>[p.1.conA,p.2.conA]) (λp=>p.1.big<2^40) (λp r=>(r=true↔p.1=p.2)) (λ_ (r:Bool)=>(.bool r,[]))
theorem zl7:zf prog 28 Uf:=jB (λp=>p.1.nodes) Un
noncomputable def K12:=Go.Sx.aA f12
def uN:Ctr:=ctrP true (λd:Int=>[.i d]) (λ_=>True) (λd r=>r=vM d) (λ_ (r:Bool)=>(.bool r,[]))
theorem yo:zf prog 36 uN:=by
 refine zh' f36 λd hp O w0 Q hq=> ?_
 replace hq:=hq _ rfl;refine zc.n zH [] (.R [.bool (bif decide ((0:Int)<=d) then decide (d<=99999) else false)] []) ?_;simp only [Tree.holds,zd];refine RetR.scal hq rfl ?_;simp only [resV,vM];cases decide (0<=d)<;>rfl
def fitV(s:List Ver):Prop:=∀ i,i<s.length->(s.getD i Ver.nil).con.big<2^37/\(s.getD i Ver.nil).con.nodes<=1000000
def uT:Ctr:=ctrP true (λs:List Ver=>[verA s]) (λs=>s.length<2^40/\fitV s) (λs r=>r=errV s) (λ_ (r:Int)=>(.i r,[]))
noncomputable def GCv:=tb yo (tb yu tz)
def SCv(s:List Ver)(i:Nat):KV:=[(1,.ptr 0 0),(16,verS s),(17,.i (s.length:Int)),(18,.i (i:Int)),Z 28,Z 29,Z 30,Z 31,Z 32,Z 33,Z 34,Z 35,Z 36,Z 37,Z 38,Z 39,Z 40,Z 41,Z 44,Z 45,Z 46,Z 47]
def HCv(s:List Ver):Heap:=[.box [.sl s.length 13 (verG s)]]
theorem y2:zf prog 12 uT:=by
 refine zh' f12 λs hp O w0 Q hq=> ?_
 replace hq:=hq _ rfl;obtain⟨hl,hfit⟩:=hp;refine zc.n GCv.h [1,16,17,18,28,29,30,31,32,33,34,35,36,37,38,39,40,41,44,45,46,47] (.ite (bif decide ((s.length:Int)<1) then true else decide ((100:Int)<s.length)) (.R [.i 8] [.box [.sl s.length 13 (verG s)]]) (.leaf (.loop (lps K12 0).1 (lps K12 0).2 [(1,.ptr 0 0),(16,.sl s.length 13 (verG s)),(17,.i s.length),(18,.i 0),Z 28,Z 29,Z 30,Z 31,Z 32,Z 33,Z 34,Z 35,Z 36,Z 37,Z 38,Z 39,Z 40,Z 41,Z 44,Z 45,Z 46,Z 47] [.box [.sl s.length 13 (verG s)]]))) ?_;simp only [Tree.holds,zd,inR,lo,hi,aD];refine⟨λg=> ?_,λg=> ?_⟩
 ·have h8:errV s=8:=by
   unfold errV;rw [aO];intro h;have:=Zb h;rw [aW (by omega),aW (by omega)] at g;cases g
  rw [h8] at hq;exact RetR.scal hq rfl rfl
 have hl1:1<=s.length/\s.length<=100:=by
  simp only [cond_eq_ite,aK] at g;split at g
  ·cases g
  ·have:=aC g; omega
 refine zc.loop (ι:={i:Nat // i<=s.length/\∀ j,j<i->okAt s j=true}) (λi=>SCv s i.1) (λ_=>HCv s) (λi=>s.length - i.1) ⟨0,aI _,λj hj=>by omega⟩ 0 ?_ ?_ (by kernel_rfl)
 ·exact⟨by simp [SCv,verS,za],by simp [HCv,za],by kernel_rfl,aI _⟩
 ·rintro⟨i,hil,hib⟩;refine zc.n GCv.h [1,16,17,18,28,29,30,31,32,33,34,35,36,37,38,39,40,41,44,45,46,47] (let v4:=s.getD (i:Int).toNat Ver.nil;let v3:=Ver.day v4 <=Ver.day (s.getD (Int.toNat (i-1)) Ver.nil);let v1:=Ver.con v4;let v2:List Blk:=[.box [.sl s.length 13 (verG s)],.box [.i v4.day,.int .u8 (Con.kind v1),.str (Con.src v1),.str (Con.dst v1),.str (Con.name v1),.int .u8 (Ex.kind (Con.x v1)),.str (Ex.rat (Con.x v1)),.str (Ex.name (Con.x v1)),.i (Ex.date (Con.x v1)),.sl (List.length (Ex.sub (Con.x v1))) 5 (Ex.exG (Ex.sub (Con.x v1))),.i (Con.date v1),.sl (List.length (Con.days v1)) 1 (Con.dayG (Con.days v1)),.sl (List.length (Con.sub v1)) 12 (Con.deep v1)]];.D ((i:Int)<s.length) (.side ((0:Int)<=i/\(i:Int)<s.length) (.ex (q21 [.i v4.day]) λn=>.all (λ(r:Bool)=>r=vM n) λn=>.side ((!n)=false/\decide ((0:Int)<i)=true->inR .i64 (i-1)) (.side ((!n)=false/\decide ((0:Int)<i)=true->(0:Int)<=i - (1:Int)/\(i:Int) - (1:Int)<s.length) (.ex (λ(x:Con)=>(bif !n then true else bif decide ((0:Int)<i) then decide v3 else false)=false->eqL [(Con.conD v1)] [(Con.conA x)]/\Con.big x<1099511627776/\Con.nodes x<=1000000) λn_1=>.all (λ(x:Int)=>(bif !n then true else bif decide ((0:Int)<i) then decide v3 else false)=false->x=Con.errC n_1) λn_2=>.ite (bif bif !n then true else bif decide ((0:Int)<i) then decide v3 else false then true else !decide (n_2=0)) (.R [.i 8] v2) (.S (i+1) (.leaf (.back 0 [(1,.ptr 0 0),(16,.sl s.length 13 (verG s)),(17,.i s.length),(18,.i (i+1)),Z 28,Z 29,Z 30,Z 31,Z 32,Z 33,Z 34,Z 35,Z 36,Z 37,Z 38,Z 39,Z 40,Z 41,Z 44,Z 45,Z 46,Z 47] v2))))))) (.R [.i 0] [.box [.sl s.length 13 (verG s)]])) ?_;simp only [q21,Tree.holds,zd,inR,lo,hi,aD];refine⟨λhlt=> ?_,λhge=> ?_⟩
  ·have hlt:i<s.length:=by have:=aB hlt; omega
   obtain⟨f1,f2⟩:=hfit i hlt;refine⟨by omega,λ_=>⟨(s.getD i Ver.nil).day,⟨⟨⟨rfl,rfl⟩,trivial⟩,trivial⟩,⟨_,rfl⟩,?_⟩⟩;rintro _ rfl;refine⟨λh=>by have:=aB h.2; omega,λ_=>⟨λh=>by have:=aB h.2; omega,λ_=>⟨(s.getD i Ver.nil).con,λ_=>⟨⟨vg _,trivial⟩,by omega,f2⟩,⟨_,λ_=>rfl⟩,λe he=> ?_⟩⟩⟩;have hok:okAt s i=(vM (s.getD i Ver.nil).day&&(decide (i=0)||decide ((s.getD (i - 1) Ver.nil).day<(s.getD i Ver.nil).day))&&decide ((s.getD i Ver.nil).con.errC=0)):=rfl;have hi1:((i:Int) - 1).toNat=i - 1:=by omega
   rw [hi1] at he ⊢
   have hmid:∀ d1 d2:Int,(bif decide (0<(i:Int)) then decide (d2<=d1) else false) = !(decide (i=0)||decide (d1<d2)):=by
    intro d1 d2;by_cases h0:i=0
    ·subst h0; simp
    ·rw [aX (show 0<(i:Int) by omega),aW h0];simp only [cond_true,Bool.false_or];by_cases h1:d1<d2
     ·rw [aX h1,aW (by omega)]; rfl
     ·rw [aW h1,aX (by omega)]; rfl
   rw [hmid] at he ⊢;generalize (decide (i=0)||decide ((s.getD (i - 1) Ver.nil).day<(s.getD i Ver.nil).day))=b2 at he hok ⊢;generalize vM (s.getD i Ver.nil).day=b1 at he hok ⊢;refine⟨λg2=> ?_,λg2=>⟨by omega,λ_=> ?_⟩⟩
   ·have hno:okAt s i=false:=by
     rw [hok];cases b1
     ·rfl
     ·cases b2
      ·rfl
      ·rw [he rfl] at g2;simpa using g2
    have h8:errV s=8:=by unfold errV; rw [zmt hlt hno]; rfl
    rw [h8] at hq;exact RetR.scal hq rfl rfl
   ·rw [aP trivial]
    have hyes:okAt s i=true:=by
     rw [hok];cases b1
     ·cases g2
     ·cases b2
      ·cases g2
      ·rw [he rfl] at g2;simpa using g2
    refine⟨⟨i+1,hlt,λj hj=> ?_⟩,by show s.length - (i+1)<s.length - i; omega,by simp [SCv,verS,za],⟨⟨⟨rfl,rfl,za _ _ _⟩,trivial⟩,trivial⟩,by kernel_rfl,aI _⟩;rcases aR j i with h1 | h1
    ·exact hib j h1
    ·have:j=i:=by omega
     rw [this]; exact hyes
  ·have hge:i=s.length:=by have:=aC hge; omega
   subst hge;have h0:errV s=0:=w7.2 (ziu hl1.1 hl1.2 hib);rw [h0] at hq;exact RetR.scal hq rfl rfl
noncomputable def K45:=Go.Sx.aA f45
def Zn:Ctr:=ctrP false (λv:Ver=>[.i v.day,v.con.conA]) (λv=>v.con.big<2^38) (λ_ (_:Unit)=>True) (λv _=>(v.av,[]))
noncomputable def GVe:=tb zqa tz
abbrev q34(A:List AV)(x:Con):Prop:=eqL A [(Con.conA x)]/\Con.big x<274877906944
theorem yT:zf prog 46 Zn:=by
 refine zh' f46 λv hp O w0 Q hq=> ?_
 obtain⟨d,c⟩:=v;replace hq:=hq () trivial;refine zc.n GVe.h [] (.ex (q34 [(Con.conA c)]) λn=>let v1:List AV:=[.i d,.int .u8 n.kind,.str n.src,.str n.dst,.str n.name,.int .u8 (Ex.kind n.x),.str (Ex.rat n.x),.str (Ex.name n.x),.i (Ex.date n.x),.sl (List.length (Ex.sub n.x)) 5 (Ex.exG (Ex.sub n.x)),.i n.date,.sl n.days.length 1 (Con.dayG n.days),.sl n.sub.length 12 (Con.deep n)];.A λn_1=>.R [.agg v1] [.box (Con.ze c),.box v1]) ?_;simp only [q34,Tree.holds,zd];refine⟨c,⟨⟨qx c,trivial⟩,hp⟩,⟨(),trivial⟩,λ_ _=> ?_⟩;exact RetR.le0 hq (λh=>by cases h) (LeA.refl _)
theorem zdm{s:List Ver}{i:Nat} : eqG (i+1) 13 (appG i (verG s) (zg (zi 13 (s.getD i Ver.nil).cells) 0)) (verG s):=by
 intro j o hj ho;simp only [appG,zg,zi];by_cases h:j<i
 ·rw [aP h]
 ·have:j=i:=by omega
  subst this;rw [aO h];have e:j - j=0:=by omega
  match o,ho with
  | 0,_=>simp [e,verG,Ver.cell,Ver.cells]
  | 1,_=>simp [e,verG,Ver.cell,Ver.cells]
  | 2,_=>simp [e,verG,Ver.cell,Ver.cells]
  | 3,_=>simp [e,verG,Ver.cell,Ver.cells]
  | 4,_=>simp [e,verG,Ver.cell,Ver.cells]
  | 5,_=>simp [e,verG,Ver.cell,Ver.cells]
  | 6,_=>simp [e,verG,Ver.cell,Ver.cells]
  | 7,_=>simp [e,verG,Ver.cell,Ver.cells]
  | 8,_=>simp [e,verG,Ver.cell,Ver.cells]
  | 9,_=>simp [e,verG,Ver.cell,Ver.cells]
  | 10,_=>simp [e,verG,Ver.cell,Ver.cells]
  | 11,_=>simp [e,verG,Ver.cell,Ver.cells]
  | 12,_=>simp [e,verG,Ver.cell,Ver.cells]
theorem zen{s:List Ver}{n:Nat}(h:n<=s.length):eqG n 13 (verG s) (verG (s.take n)):=by
 intro j o hj ho;unfold verG;have:(s.take n).getD j Ver.nil=s.getD j Ver.nil:=by simp [List.getD,bR,hj]
 rw [this]
def zbk:Ctr:=ctrP false (λp:List Ver×Nat=>[verA p.1,.i (p.2:Int)]) (λp=>p.2<=p.1.length/\p.1.length<2^30/\fitV p.1) (λ_ (_:Unit)=>True) (λp _=>(.agg [.osl 0 13 0 p.2],[.arr p.2 13 (verG (p.1.take p.2))]))
noncomputable def GCp:=tb yT tz
def SCp(s:List Ver)(n i:Nat):KV:=[(4,.ptr 1 0),(5,.ptr 2 0),(11,.sl n 13 (verG s)),(12,.i (n:Int)),(13,.i (i:Int))]
def HCp(s:List Ver)(i:Nat):Heap:=[.box [.sl s.length 13 (verG s)],.box [.nils],.box [.osl 3 13 0 i],.arr i 13 (verG s)]
abbrev q35(A:List AV)(x:Ver):Prop:=eqL A [.i x.day,(Con.conA x.con)]/\Con.big x.con<274877906944
theorem zf7:zf prog 45 zbk:=by
 refine QZ (fn:=f45) (c:=f45.body.getD .skip) rfl rfl rfl λp hp O w0 Q hq=> ?_
 obtain⟨s,n⟩:=p;replace hq:=hq () trivial;obtain⟨h1,h2,h3⟩:=hp;simp only at h1 h2 h3 hq;refine zc.n GCp.h [4,5,11,12,13] (.side ((0:Int)<=n/\(n:Int)<=s.length) (.leaf (.loop (lps K45 0).1 (lps K45 0).2 [(4,.ptr 1 0),(5,.ptr 2 0),(11,.sl (Int.toNat n - 0) 13 (zg (verG s) 0)),(12,.int .i64 ↑(Int.toNat n - 0)),(13,.i 0)] [.box [.sl s.length 13 (verG s)],.box [.nils],.box [.nils]]))) ?_;simp only [Tree.holds,zd,inR,lo,hi,aD];refine⟨by omega,λ_=> ?_⟩;refine zc.zr3 2 0 13 (verG s) rfl rfl (by kernel_rfl) ?_;refine zc.loop (ι:={i:Nat // i<=n}) (λi=>SCp s n i.1) (λi=>HCp s i.1) (λi=>n - i.1) ⟨0,aI _⟩ 0 ?_ ?_ (by kernel_rfl)
 ·exact⟨by simp [SCp]; exact x8 _ _ _,by simp [HCp,za],by kernel_rfl,aI _⟩
 ·rintro⟨i,hil⟩;refine zc.n GCp.h [4,5,11,12,13] (let v4:=s.getD (i:Int).toNat Ver.nil;let v1:=Ver.con v4;.D ((i:Int)<n) (.side ((0:Int)<=i/\(i:Int)<n) (.ex (q35 [.i v4.day,(Con.conD v1)]) λn_1=>let v3:=Ver.con n_1;let v2:=zi 13 [.i n_1.day,.int .u8 (Con.kind v3),.str (Con.src v3),.str (Con.dst v3),.str (Con.name v3),.int .u8 (Ex.kind (Con.x v3)),.str (Ex.rat (Con.x v3)),.str (Ex.name (Con.x v3)),.i (Ex.date (Con.x v3)),.sl (List.length (Ex.sub (Con.x v3))) 5 (Ex.exG (Ex.sub (Con.x v3))),.i (Con.date v3),.sl (List.length (Con.days v3)) 1 (Con.dayG (Con.days v3)),.sl (List.length (Con.sub v3)) 12 (Con.deep v3)];.A λn_2=>.side (0=0/\i<=i/\(i+1)*192<=140737488355328) (.S (i+1) (.leaf (.back 0 [(4,.ptr 1 0),(5,.ptr 2 0),(11,.sl n 13 (verG s)),(12,.i n),(13,.i (i+1))] [.box [.sl s.length 13 (verG s)],.box [.nils],.box [.osl 3 13 0 (i+1)],.arr (i+1) 13 (appG i (verG s) (zg v2 0)),.box [.i v4.day,.int .u8 (Con.kind v1),.str (Con.src v1),.str (Con.dst v1),.str (Con.name v1),.int .u8 (Ex.kind (Con.x v1)),.str (Ex.rat (Con.x v1)),.str (Ex.name (Con.x v1)),.i (Ex.date (Con.x v1)),.sl (List.length (Ex.sub (Con.x v1))) 5 (Ex.exG (Ex.sub (Con.x v1))),.i (Con.date v1),.sl (List.length (Con.days v1)) 1 (Con.dayG (Con.days v1)),.sl (List.length (Con.sub v1)) 12 (Con.deep v1)],.arr 1 13 v2]))))) (.R [.agg [.osl 3 13 0 i]] [.box [.sl s.length 13 (verG s)],.box [.osl 3 13 0 i],.box [.osl 3 13 0 i],.arr i 13 (verG s)])) ?_;simp only [q35,Tree.holds,zd,inR,lo,hi,aD];refine⟨λhlt=> ?_,λhge=> ?_⟩
  ·have hlt:i<n:=by have:=aB hlt; omega
   obtain⟨f1,f2⟩:=h3 i (by omega);refine⟨by omega,λ_=>⟨s.getD i Ver.nil,⟨⟨⟨rfl,rfl⟩,vg _,trivial⟩,by omega⟩,⟨(),trivial⟩,λ_ _=> ?_⟩⟩;refine⟨⟨trivial,aJ _,by omega⟩,λ_=>⟨by omega,λ_=> ?_⟩⟩;rw [aP trivial];refine⟨⟨i+1,hlt⟩,by show n - (i+1)<n - i; omega,by simp [SCp,za],⟨⟨⟨rfl,rfl,za _ _ _⟩,trivial⟩,⟨trivial,trivial⟩,⟨⟨rfl,rfl,rfl,rfl⟩,trivial⟩,⟨rfl,rfl,zdm⟩,trivial⟩,by kernel_rfl,aI _⟩
  ·have hge:i=n:=by have:=aC hge; omega
   subst hge;refine RetR.outs [3] rfl rfl (.inl hq) (λh=>by cases h) ?_ ?_ rfl
   ·simp [resV,exp2,exp1,exp0,zG,eqA2,eqL1]
   ·exact⟨⟨rfl,rfl,zen h1⟩,trivial⟩
end Go.Proofs.Tryz
end
section
namespace Go.Sx
variable [Stat]
variable {P:Program} {fn:Func} {Xp:List PanicEntry->Prop}
end Go.Sx
end
section
namespace Go.Nov
end Go.Nov
end
section
namespace Go.Nov
open Go.Sx
structure TOp where
 kind:Int
 a:Int
 b:Int
 rat:L8
def TOp.cell(o:TOp):Nat->AV
 | 0=>.int .u8 o.kind
 | 1=>.i o.a
 | 2=>.i o.b
 | 3=>.str o.rat
 | _=>.undef
end Go.Nov
end
section
namespace Go.Nov
open Go.Sx
structure Deal where
 long:L8
 short:L8
 ccy:L8
 name:L8
 ZO:L8
 V0:L8
namespace Tm
def kon(r:L8):Ex:=.mk 1 r [] 0 []
def spot(n:L8):Ex:=.mk 3 [] n 0 []
def fixg(n:L8)(d:Int):Ex:=.mk 2 [] n d []
def opx(k:Int)(s:List Ex):Ex:=.mk k [] [] 0 s
def over(k:L8)(x:Ex)(below:Bool):Ex:=opx 7 [kon [48],opx 5 (if below=true then [kon k,x] else [x,kon k])]
def pay(d:Deal)(x:Ex)(r:L8):Con:=.mk 2 d.short d.long d.ccy (opx 6 [x,kon r]) 0 [] []
def at_(day:Int)(c:Con):Con:=.mk 6 [] [] [] (.mk 0 [] [] 0 []) day [] [c]
def call(d:Deal)(ch:L8)(days:List Int)(c:Con):Con:=.mk 8 d.long [] ch (.mk 0 [] [] 0 []) 0 days [c]
def first(e:Int)(l:List L8):Int:=l.foldl (λe r=>if e=0 then errR r else e) e
def zero:Con:=.mk 0 [] [] [] (.mk 0 [] [] 0 []) 0 [] []
def fits(d:Deal):Prop:=d.long.length<=200/\d.short.length<=200/\d.ccy.length<=200/\d.name.length<=200/\d.ZO.length<=2500/\d.V0.length<=2500
def res(d:Deal)(c:Con):Int:=if first 0 [d.ZO,d.V0]=0 then c.errC else first 0 [d.ZO,d.V0]
def out(e:Int)(c:Con):Con:=if e=0 then c else zero
def opt(d:Deal)(ch:L8)(days:List Int)(put:Bool):Con:=call d ch days (pay d (over d.ZO (spot d.name) put) d.V0)
end Tm
end Go.Nov
end
section
namespace Go.Sx
open Go.Nov
variable [Stat]
theorem zf.sink{P:Go.Program}{g:Nat}{c:Ctr}(h:zf P g c):zf P g { c with sinks:=true } :=h
theorem LeL.dAt:∀ {l m:List AV} (i:Nat),LeL l m->LeA (l.getD i .undef) (m.getD i .undef)
 | [],[],_,_=>LeA.refl _
 | [],_::_,_,h=>by simp [LeL] at h
 | _::_,[],_,h=>by simp [LeL] at h
 | a::l,b::m,0,h=>by simp only [LeL] at h; exact h.1
 | a::l,b::m,i+1,h=>by
  simp only [LeL] at h;have:=LeL.dAt i h.2;simpa [List.getD] using this
theorem RetR.Vj{ctr:Ctr}{m:Nat}{Q:AV×Heap->Prop}{rs:List AV}{h:Heap}{r:AV}{hs:Heap}(L:List Nat)(hnd:jY L=true)(hlt:(L.all λi=>decide (i<h.length))=true)(hj:∀ j,j<m->L[j]?=some j)(hf:ctr.fresh=false)(hq:Q (r,hs))
  (he:LeA (exp2 h L (resV rs)) r) (hb:eqH (expH h L) hs) (hl:hs.length=L.length):RetR ctr m Q rs h:=
 ⟨L,hnd,λi hi=>by have:=bG.1 hlt i hi; simpa using this,hj,(λhh=>absurd hh (by rw [hf]; decide)),r,hs,he,.inl hb,hl,hq⟩
theorem RetR.zcb{ctr:Ctr}{m:Nat}{Q:AV×Heap->Prop}{rs:List AV}{h:Heap}{r:AV}{hs:Heap}(L:List Nat)(hnd:jY L=true)(hlt:(L.all λi=>decide (i<h.length))=true)(hj:∀ j,j<m->L[j]?=some j)(hf:ctr.fresh=false)(hq:Q (r,hs))
  (he:LeA (exp2 h L (resV rs)) r) (hb:leHs (expH h L) hs):RetR ctr m Q rs h:=
 ⟨L,hnd,λi hi=>by have:=bG.1 hlt i hi; simpa using this,hj,(λhh=>absurd hh (by rw [hf]; decide)),r,hs,he,.inr hb,by rw [Jf hb]; simp [expH],hq⟩
end Go.Sx
namespace Go.Nov
open Go.Sx
variable [Go.Sx.Stat]
theorem Con.zm7{e:Con}{k d:Int}{a b n:L8}{x:Ex}{l:List Int}{c:List AV}(h:LeL c e.zp):LeA (.sl 1 12 (zg (zi 12 c) 0)) (.sl 1 12 (Con.mk k a b n x d l [e]).deep):=by
 refine LeA.sl rfl λj o hj ho=> ?_
 have h0:j=0:=by omega
 subst h0;rw [Con.qp (Con.mk k a b n x d l [e]) 0 o (by show 0<1; decide) ho];have:=LeL.dAt o h;simp only [zg,zi,Nat.zero_add,Nat.zero_mul];rcases(show o=0\/o=1\/o=2\/o=3\/o=4\/o=5\/o=6\/o=7\/o=8\/o=9\/o=10\/o=11 by omega) with rfl | rfl | rfl | rfl | rfl | rfl | rfl | rfl | rfl | rfl | rfl | rfl<;>exact this
end Go.Nov
end
section
namespace Go.Sx
variable [Stat]
def Zf(T:TypeId)(e:Int):List PanicEntry:=[{ v:=.iface T (.agg #[.i e]),recovered:=false }]
def okM{α:Type} : Except Int α->Bool
 | .ok _=>true
 | .error _=>false
def getM{α:Type}(d:α):Except Int α->α
 | .ok a=>a
 | .error _=>d
def ctrS{X:Type}(inp:X->List AV)(hin:X->Heap)(pre:X->Prop)(ok:X->Bool)(out:X->AV×Heap):Ctr where
 fresh:=false
 spec args hc:=.ex (λx=>eqL args (inp x)/\eqH hc (hin x)/\hc.length=(hin x).length/\pre x) λx=>.ite (ok x) (.leaf (out x)) (.leaf (.bot,hin x))
theorem yh{Xp:List PanicEntry->Prop}{P:Program}{fn:Func}{X:Type}{inp:X->List AV}{hin:X->Heap}{pre:X->Prop}{ok:X->Bool}{out:X->AV×Heap}{g:Nat}{c:Code}(hf:P.funcs[g]?=some fn)(hb:fn.body=some c) (hn:(fn.name == "runtime.NumGoroutine")=false)
  (H:∀ x,pre x->∀ (O:Nat->Prop) (w0:World) (I0:List SE) (Q:AV×Heap->Prop),I0.length=(hin x).length->(ok x=true->Q (out x)) ->
   Uz Xp P fn O (hin x).length w0 I0 (λ_ _ _=>False) (RetR (ctrS inp hin pre ok out) (hin x).length Q) [.code c] (wS fn (inp x) (hin x))):zy Xp P g (ctrS inp hin pre ok out):=by
 intro args hc Q hq _;obtain⟨x,⟨h1,h2,h3,h4⟩,h5,h6⟩:=hq;refine qR.le h1 (qR.leH h2 h3 (zh3 hf hb hn (λh=>by cases h) λO w0 I0 hl=> ?_));exact H x h4 O w0 I0 Q hl h5
theorem qR.up{P:Program}{Xp:List PanicEntry->Prop}{g:Nat}{c:Ctr}{args:List AV}{hc:Heap}{Q:AV×Heap->Prop}(h:qR Xp P g c args hc (upQ Q)):qR Xp P g c args hc Q:=by
 intro O w σ vals hg hh hr;refine qJ.map (λ_ h=>h) ?_ (h O w σ vals hg hh hr);rintro v w' ⟨r,hs,Z',hq,h1,h2,h3,h4,h5,h6⟩;rcases hq with hq | ⟨r',szs,hu,hq⟩
 ·exact⟨r,hs,Z',hq,h1,h2,h3,h4,h5,h6⟩
 ·have hx:Ext (λb=>Own O Z' b\/(c.fresh=true/\b<w.heap.size)) w' (λb=>Own O (Z'++vw szs.length) b\/(c.fresh=true/\b<w.heap.size)) w':=
   ⟨rfl,rfl,rfl,aJ _,λ_ _ _=>rfl,λb hb=>.inl (hb.imp yD id)⟩
  have hl:hs.length=Z'.length:=h2.len.symm;refine⟨r',hs++VV szs,Z'++vw szs.length,hq,VS hx (by rw [<- hl]; exact hu) h1,zc3 hx h2 szs,⟨h3.old,λi e ad he had=> ?_,h3.stat.own λb hb=>yD hb⟩,by simp; omega,h5.KN (xB [] w' Z' _),?_⟩
  ·rcases vU he with ⟨_,he⟩ | ⟨_,rfl⟩
   ·exact h3.dis i e ad he had
   ·cases had
  ·exact⟨h6.os,h6.tape,h6.output,h6.size,h6.keep,λb hb=>h6.grow b (ux hb)⟩
theorem zh1{Xp:List PanicEntry->Prop}{P:Program}{fn:Func}{X:Type}{inp:X->List AV}{hin:X->Heap}{pre:X->Prop}{ok:X->Bool}{out:X->AV×Heap}{g:Nat}{c:Code}(hf:P.funcs[g]?=some fn)(hb:fn.body=some c) (hn:(fn.name == "runtime.NumGoroutine")=false)
  (H:∀ x,pre x->∀ (O:Nat->Prop) (w0:World) (I0:List SE) (Q:AV×Heap->Prop),I0.length=(hin x).length->(ok x=true->Q (out x)) ->
   Uz Xp P fn O (hin x).length w0 I0 (λ_ _ _=>False) (RetR (ctrS inp hin pre ok out) (hin x).length (upQ Q)) [.code c] (wS fn (inp x) (hin x))):zy Xp P g (ctrS inp hin pre ok out):=by
 intro args hc Q hq _;obtain⟨x,⟨h1,h2,h3,h4⟩,h5,h6⟩:=hq;refine qR.le h1 (qR.leH h2 h3 (qR.up (zh3 hf hb hn (λh=>by cases h) λO w0 I0 hl=> ?_)));exact H x h4 O w0 I0 Q hl h5
theorem zy.znq{Xp:List PanicEntry->Prop}{P:Program}{X:Type}{inp:X->List AV}{pre:X->Prop}{ok:X->Bool}{out:X->AV×Heap}{out':X->AV}{g:Nat}(h:zy Xp P g (ctrS inp (λ_=>[]) pre ok out))
  (he:∀ x,LeA (exp2 (out x).2 [] (out x).1) (out' x)):zy Xp P g (ctrS inp (λ_=>[]) pre ok λx=>(out' x,[])):=by
 intro args hc Q hq _;obtain⟨x,⟨h1,h2,h3,h4⟩,h5,h6⟩:=hq;have h0:hc=[]:=aU.1 h3;subst h0;have k:=h args [] (λp=>(ok x=true/\p=out x)\/p=(.bot,[])) ⟨x,⟨h1,h2,h3,h4⟩,λho=>.inl ⟨ho,rfl⟩,λho=>.inr rfl⟩ (λh=>by cases h);intro O w σ vals hg hh hr;have hZ:σ=[]:=aU.1 (by simpa using hh.len);subst hZ;refine qJ.map (λ_ h=>h) ?_ (k O w [] vals hg hh hr);rintro v w' ⟨a,hs,Z',hq,g1,g2,g3,g4,g5,g6⟩;rcases hq with ⟨ho,e⟩ | e
 ·have ea:a=(out x).1:=by rw [<- e]
  have eh:hs=(out x).2:=by rw [<- e]
  have sub:∀ b,Own O Z' b->(Own O Z' b\/((ctrS inp (λ_=>[]) pre ok out).fresh=true/\b<w.heap.size)):=λb hb=>.inl hb
  have XX:Exp O w' Z' hs [] [] (λb=>Own O [] b\/((ctrS inp (λ_=>[]) pre ok λx=>(out' x,([]:Heap))).fresh=true/\b<w.heap.size)):=
   ⟨g3,⟨g2.len,g2.inj,g2.lt,λi e b he hb=>W0 sub (g2.blk i e b he hb)⟩,rfl,by simp,λj=>by simp,λb hb=>by
    rcases hb with hb | ⟨hb,_⟩
    ·exact .inl hb
    ·cases hb⟩
  have hin':∀ b,(Own O [] b\/((ctrS inp (λ_=>[]) pre ok λx=>(out' x,([]:Heap))).fresh=true/\b<w.heap.size))->Own O Z' b:=λb hb=>by
   rcases hb with (hb | ⟨e,he,_⟩) | ⟨hb,_⟩
   ·exact .inl hb
   ·simp at he
   ·cases hb
  refine⟨out' x,[],[],h5 ho,he x _ _ _ _ ?_,⟨rfl,λi j e f a b he=>by simp at he,λi e a he=>by simp at he,λi e b he=>by simp at he⟩,⟨g3.old,λi e ad he=>by simp at he,g3.stat.own λb hb=>by
   rcases hb with hb | ⟨e,he,_⟩
   ·exact .inl hb
   ·simp at he⟩,aJ _,λi e he=>by simp at he,⟨g6.os,g6.tape,g6.output,g6.size,λb hb hno=>g6.keep b hb hno,λb hb=>by obtain⟨_,he,_⟩:=hb; simp at he⟩⟩
  rw [<- ea,<- eh];exact uC XX (.inl hin') (jE sub g1)
 ·cases e;exact g1.elim
theorem Yo{P:Program}{g:Nat}{fn:Func}{c:Code}(hf:P.funcs[g]?=some fn)(hb:fn.body=some c) (hn:(fn.name == "runtime.NumGoroutine")=false) {T:TypeId} {Xp:List PanicEntry->Prop} {X:Type} (av:X->AV) (val:X->Value)
  (hav:∀ x own w σ v,Rep own w (av x) σ v↔v=val x)
  (W:∀ x e w,Calls P g #[val x,.i e] w λen w'=>w'=w/\((e=0/\en = .returned (val x))\/(e≠0/\en = .panicked [{ v:=.iface T (.agg #[.i e]),recovered:=false }]))) :
  zy Xp P g (ctrS (λ(x:X×Int)=>[av x.1,.i x.2]) (λ_=>[]) (λx=>x.2≠0->Xp (Zf T x.2)) (λx=>decide (x.2=0)) (λx=>(av x.1,[]))):=by
 intro args hc Q hq _;obtain⟨⟨x,e⟩,⟨h1,h2,h3,h4⟩,h5,h6⟩:=hq;obtain rfl:hc=[]:=aU.1 h3;refine qR.le h1 ?_;intro O w σ vals hg hh hr;simp only [RepL] at hr;obtain⟨v0,r0,rfl,h0,v1,r1,rfl,h1,rfl⟩:=hr;rw [hav] at h0;simp only [Rep] at h1;subst h0 h1;have hn':¬ fn.name = "runtime.NumGoroutine" :=by simpa using hn
 left;refine⟨by simp [callFunc,hf,hn',hb],?_⟩;refine(W x e w).mono ?_;rintro en w' ⟨rfl,⟨he,rfl⟩ | ⟨he,rfl⟩⟩
 ·left;refine⟨_,rfl,av x,[],σ,h5 (aX he),(hav ..).2 rfl,⟨hh.len,hh.inj,hh.lt,λ_ _ _ _ h=>by simp at h⟩,hg,aJ _,WW _ _ _,Ext.refl _ _⟩
 ·right;exact⟨_,rfl,h4 he,rfl,rfl,rfl,aJ _,λ_ _ _=>rfl,λ_ h=>h.elim⟩
section
variable {F:Fence} {n:Nat} {P:Program} {ops:Array Oper} {Q Q':Exit->Act->World->Prop}
end
def uj(O:Nat->Prop)(w:World)(I0:List SE)(ctr:Ctr)(hc:Heap)(Q:AV×Heap->Prop)(e:Ending)(w':World):Prop:=
 ∃ v',e = .returned v'/\∃ r hs Z',Q (r,hs)/\Rep (λb=>Own O Z' b\/(ctr.fresh=true/\b<w.heap.size)) w' r Z' v' /\
  HRep (λb=>Own O Z' b\/(ctr.fresh=true/\b<w.heap.size)) w' Z' hs/\Good O w' Z'/\hc.length<=hs.length/\Hold (if ctr.vD=true then(List.range hc.length).drop ctr.pins else []) w I0 w' Z'/\Ext (Mine I0) w (Mine Z') w'
theorem zdf{P:Program}{fn:Func}{ctr:Ctr}{hc:Heap}{Q:AV×Heap->Prop}{O:Nat->Prop}{w:World}{I0:List SE}(hh:I0.length=hc.length)(hfr:ctr.fresh=true->hc=[]) :
  ∀ (st:St) (σ:List SE) (a':Act) (w':World),((resX P st fn.results.toList).holds λrs=>RetR ctr hc.length Q rs st.heap)->Mod O (vL ctr hc) w I0 w' σ st a'->∃ v,(results fn a'.tmps).run P w' = .ok v w'/\uj O w I0 ctr hc Q (.returned v) w':=by
 intro st σ a' w' hR hm;obtain⟨rs,v,h1,⟨M,h2,h3,h4,h5,r0,hs0,hq1,hq2,hq3,h6⟩,h7⟩:=yM hm hR
 let EM:List SE:=M.map λi=>σ.getD i ⟨none,0⟩
 have hMZ:∀ i∈M,i<σ.length:=λi hi=>by rw [hm.hp.len]; exact h3 i hi
 have hget:∀ j:Nat,EM[j]?=(M[j]?).bind λi=>σ[i]?:=by
  intro j;simp only [EM,aN];cases hj:M[j]? with
  | none=>rfl
  | some i=>
   have:=hMZ i (aY hj);simp [this]
 have hnewO:ctr.fresh=true->∀ b,Mine σ b->w.heap.size<=b:=by
  intro hf b hb;have h0:=hfr hf;have hZ0:I0=[]:=by have:=hh; rw [h0] at this; exact aU.1 (by simpa using this)
  obtain⟨i,e,ad,g1,g2,g3⟩:=zu.1 hb;rcases hm.since.ext.grow b (.inr hb) with hx | hx
  ·rcases hx with hx | ⟨e',he',_⟩
   ·exact absurd (g3▸hx) (hm.good.dis i e ad g1 g2)
   ·rw [hZ0] at he'; simp at he'
  ·exact hx
 have X:Exp O w' σ st.heap M EM (λb=>Own O EM b\/(ctr.fresh=true/\b<w.heap.size)):=⟨hm.good,hm.hp,h2,h3,hget,λb hb=>by
  rcases hb with hb | ⟨hf,hb⟩
  ·exact .inl hb
  ·exact .inr λhmn=>by have:=hnewO hf b hmn; omega⟩
 have hor:∀ {p:Prop},(ctr.fresh=true->p)->(∀ b,(Own O EM b\/(ctr.fresh=true/\b<w.heap.size))->Own O σ b)\/p:=by
  intro p hp;cases hf:ctr.fresh with
  | true=>exact .inr (hp hf)
  | false=>
   left;rintro b (hb | ⟨hf',_⟩)
   ·exact X.sub hb
   ·cases hf'
 have hmlen:hc.length<=M.length:=by
  rcases aR M.length hc.length with hlt | hge
  ·have:=h4 M.length hlt;simp at this
  ·exact hge
 refine⟨v,h1,v,rfl,r0,hs0,EM,h6,hq1 _ _ _ _ (uC X (hor λhf=>(h5 hf).1) h7),⟨?_,?_,?_,?_⟩,⟨?_,?_,hm.good.stat.own λb hb=>hb.imp id λ⟨e,he,ad,h1,h2⟩=>by
  obtain⟨j,hj⟩:=List.mem_iff_getElem?.1 he;obtain⟨i,_,g2⟩:=X.get' hj;exact⟨e,aY g2,ad,h1,h2⟩⟩,by omega,?_,?_⟩
 ·simp [EM,hq3]
 ·intro i j e f a b he hf ha hb' hij;obtain⟨i',g1,g2⟩:=X.get' he;obtain⟨j',g3,g4⟩:=X.get' hf;refine hm.hp.inj i' j' e f a b g2 g4 ha hb' ?_;rintro rfl;have g5:=wA h2 g1;have g6:=wA h2 g3;rw [g5] at g6; cases g6; exact hij rfl
 ·intro i e a he ha;obtain⟨i',g1,g2⟩:=X.get' he;exact hm.hp.lt i' e a g2 ha
 ·intro j e b he hb';obtain⟨i,g1,g2⟩:=X.get' he;have hb2:(expH st.heap M)[j]?=some (expB st.heap M (st.heap.getD i .dead)):=by simp only [expH,aN,g1,Option.map_some]
  refine(hq2.elim (λhq2=>LeB.of_eq (yw hq2 hb2 hb')) λhq2=>Zc hq2 hb2 hb') _ _ _ _ ?_;have hlt:=h3 i (aY g1);have hgd:st.heap.getD i .dead=st.heap[i]:=by simp [hlt]
  have hbr:=hm.hp.blk i e _ g2 (aF hlt);rw [<- hgd] at hbr;exact WK X (hor λhf=>(h5 hf).2 i (aY g1)) hbr
 ·exact hm.good.old
 ·intro i e ad he had;obtain⟨i',g1,g2⟩:=X.get' he;exact hm.good.dis i' e ad g2 had
 ·cases hmv:ctr.vD with
  | true=>
   intro i e he hi;have hlt:=(aG.1 he).1;rw [hh] at hlt
   have hip:i<ctr.pins:=by
    refine bM λg=>hi ?_
    rw [aP rfl];refine List.mem_iff_getElem?.2 ⟨i - ctr.pins,?_⟩;rw [List.getElem?_drop,show ctr.pins+(i - ctr.pins)=i by omega];exact List.getElem?_range hlt
   obtain⟨g1,g2⟩:=hm.since.hold i e (by simpa [vL,hmv] using hip) he;exact⟨by rw [hget,h4 i hlt]; exact g1,g2⟩
  | false=>
   intro i e he _;have hlt:=(aG.1 he).1;rw [hh] at hlt;obtain⟨g1,g2⟩:=hm.since.hold i e (by simpa [vL,hmv] using hlt) he;exact⟨by rw [hget,h4 i hlt]; exact g1,g2⟩
 ·refine⟨hm.since.ext.os,hm.since.ext.tape,hm.since.ext.output,hm.since.ext.size,λb hb' hno=> ?_,λb hb'=> ?_⟩
  ·by_cases hOb:O b
   ·exact hm.since.jT b hOb hb'
   ·exact hm.since.ext.keep b hb' (λhx=>by rcases hx with hx | hx; exact hOb hx; exact hno hx)
  ·rcases X.sub (.inr hb') with hx | hx
   ·obtain⟨j,e,ad,g1,g2,g3⟩:=zu.1 hb';obtain⟨i,_,g4⟩:=X.get' g1;exact absurd (g3▸hx) (hm.good.dis i e ad g4 g2)
   ·obtain⟨i,e,ad,g1,g2,g3⟩:=zu.1 hx;rcases hm.since.ext.grow b (.inr hx) with hy | hy
    ·rcases hy with hy | hy
     ·exact absurd (g3▸hy) (hm.good.dis i e ad g1 g2)
     ·exact .inl hy
    ·exact .inr hy
theorem wh{M:Option Nat}{P:Program}{H:Nat->Act->World->Prop}{B B':Exit->Act->World->Prop}(hB:∀ e a w,B e a w->B' e a w):∀ {k:List Item} {e:Exit} {a:Act} {w:World},wpK M P H B k e a w->wpK M P H B' k e a w
 | [],e,a,w,h=>hB _ _ _ h
 | .code c::k,e,a,w,h=>by
  cases e with
  | normal=>exact wpIn_mono h λe a w h=>wh hB h
  | _=>exact wh (k:=k) hB h
 | .inBlock id::k,e,a,w,h=>by
  cases e with
  | normal=>exact wh (k:=k) hB h
  | exit i=>
   simp only [wpK] at h ⊢;split at h
   ·rename_i hi; rw [aP hi]; exact wh hB h
   ·rename_i hi; rw [aO hi]; exact wh hB h
  | _=>exact wh (k:=k) hB h
 | .inLoop::k,e,a,w,h=>by
  cases e with
  | normal=>exact h
  | _=>exact wh (k:=k) hB h
theorem door{P:Program}{fn:Func}{g:Nat}{c:Code}{ctr:Ctr}(hf:P.funcs[g]?=some fn)(hb:fn.body=some c) (hn:(fn.name == "runtime.NumGoroutine")=false)
  {args:List AV} {hc:Heap} {Q:AV×Heap->Prop} (hfr:ctr.fresh=true->hc=[]) {ι:Type} (S:ι->KV) (H:ι->Heap) (n m:Nat) (hfl:((jk n c).take m).all Qm=true) (hd:qM ((jk n c).drop m)=0)
  (h1:∀ (O:Nat->Prop) (w0:World) (I0:List SE),I0.length=hc.length->zc P fn O (vL ctr hc) w0 I0 (λ_ kv h=>∃ x,LeK (vL ctr hc) fn.ntmps kv h (S x) (H x)) (RetR ctr hc.length Q) ((jk n c).take m++.inLoop::(jk n c).drop m) (wS fn args hc))
  (h2:∀ (x:ι) (O:Nat->Prop) (w0:World) (I0:List SE) (w:World) (σ:List SE) (a:Act),I0.length=hc.length->Mod O (vL ctr hc) w0 I0 w σ (mk fn.ntmps (S x) (H x)) a ->
   wpK none P (λ_ _ _=>False) (bodyPostM Fence.wide 0 P fn (uj O w0 I0 ctr hc Q)) ((jk n c).drop m) .normal a w):jK P g ctr args hc Q:=by
 intro O w I0 vals hg hh hr;left;have hn':¬ fn.name = "runtime.NumGoroutine" :=by simpa using hn
 refine⟨by simp [callFunc,hf,hn',hb],?_⟩;refine callsIn_wide.1 (callsIn_of_wp_marks (F:=Fence.wide) (n:=0) (R:=uj O w I0 ctr hc Q) hf hb trivial ?_);show wpK none P (λ_ _ _=>False) (bodyPostM Fence.wide 0 P fn (uj O w I0 ctr hc Q)) [.code c] .normal _ w;refine ZN n c [] _ w ?_;rw [List.append_nil,<- bU m (jk n c)];refine kI (H':=λd a w'=>∃ st σ,(∃ kv h,(∃ x,LeK (vL ctr hc) fn.ntmps kv h (S x) (H x))/\st=mk fn.ntmps kv h)/\Mod O (vL ctr hc) w I0 w' σ st a) ?_ ?_ _ hfl .normal _ w (wh ?_ (h1 O w I0 hh.len w I0 _ (Vi hg hh hr)))
 ·rintro a w1 ⟨st,σ,⟨kv,h,⟨x,hle⟩,rfl⟩,hm⟩;exact h2 x O w I0 w1 _ a hh.len (hle.le.mod hm)
 ·intro d a w1 hlt;rw [hd] at hlt;omega
 ·intro e a1 w1 h
  have hend:∀ (st:St) (σ:List SE),((resX P st fn.results.toList).holds λrs=>RetR ctr hc.length Q rs st.heap)->Mod O (vL ctr hc) w I0 w1 σ st a1->LeavesInM Fence.wide 0 P fn a1.tmps (uj O w I0 ctr hc Q) a1.defers .returning w1:=by
   intro st σ hR hm;refine vQ a1.defers w1 hm λw' hm'=> ?_
   obtain⟨v,h1,h2⟩:=zdf hh.len hfr st σ _ _ hR hm';exact⟨v,h1,h2⟩
  rcases h with ⟨rfl | rfl,st,σ,hR,hm⟩ | ⟨ch,_,h,_⟩
  ·exact hend st σ hR hm
  ·exact hend st σ hR hm
  ·exact h.elim
structure Kept(w w':World):Prop where
 os:w'.os=w.os
 tape:w'.tape=w.tape
 output:w'.output=w.output
 size:w.heap.size<=w'.heap.size
 keep:∀ b,b<w.heap.size->w'.heap[b]?=w.heap[b]?
theorem Kept.of{w w':World}{p:Nat->Prop}(h:Ext (Mine []) w p w'):Kept w w':=⟨h.os,h.tape,h.output,h.size,λb hb=>h.keep b hb λhm=>by obtain⟨_,he,_⟩:=hm; simp at he⟩
theorem Kept.ext{w w':World}(h:Kept w w')(own:Nat->Prop):Ext own w own w':=⟨h.os,h.tape,h.output,h.size,λb hb _=>h.keep b hb,λb hb=>.inl hb⟩
theorem Kept.hold{w w':World}(h:Kept w w')(K:List Nat)(σ:List SE):Hold K w σ w' σ:=λi e he _=>⟨he,λad had cs el hcs=>⟨cs,el,by rw [h.keep _ (aQ.1 hcs).1]; exact hcs,rfl⟩⟩
theorem Kept.good{O:Nat->Prop}{w w':World}{σ:List SE}(h:Kept w w')(hg:Good O w σ):Good O w' σ:=⟨λb hb=>bB (hg.old b hb) h.size,hg.dis,hg.stat.ext (h.ext _)⟩
theorem Kept.rep{own:Nat->Prop}{w w':World}{σ:List SE}{a:AV}{v:Value}(h:Kept w w')(hr:Rep own w a σ v):Rep own w' a σ v:=zK (h.ext own) (h.hold [] σ) a v (qm a) hr
theorem Kept.hrep{own:Nat->Prop}{w w':World}{σ:List SE}{hp:Heap}(h:Kept w w')(hh:HRep own w σ hp):HRep own w' σ hp:=
 ⟨hh.len,hh.inj,λi e a he ha=>bB (hh.lt i e a he ha) h.size,λi e b he hb=>by
  have:=js (K:=[]) (h.ext own) (h.hold [] σ) (hh.blk i e b he hb) λad had=>h.keep _ (hh.lt i e ad he had)
  rwa [j1] at this⟩
theorem Kept.trans{w1 w2 w3:World}(h:Kept w1 w2)(k:Kept w2 w3):Kept w1 w3:=⟨k.os.trans h.os,k.tape.trans h.tape,k.output.trans h.output,bP h.size k.size,λb hb=>(k.keep b (bB hb h.size)).trans (h.keep b hb)⟩
theorem Kept.alloc(w:World)(o:Obj):Kept w (w.alloc o):=⟨rfl,rfl,rfl,by show _<=(w.heap.push o).size; simp,λb hb=>by
 show(w.heap.push o)[b]?=_;rw [Array.getElem?_push,aO (Nat.ne_of_lt hb)]⟩
theorem Z8{Xp:List PanicEntry->Prop}{P:Program}{g:Nat}{c:Ctr}{args:List AV}{r:AV}{O:Nat->Prop}{w:World}{σ:List SE}{vals:List Value}(hc:zy Xp P g c)(hq:(c.spec args []).holds λp=>p=(r,[])\/p=(.bot,[]))(hg:Good O w σ){hp:Heap}(hh:HRep (Own O σ) w σ hp)(hr:RepL (Own O σ) w args [] vals) :
  qJ Xp (Kept w) P g vals.toArray w λv w'=>Kept w w'/\Rep (Own O σ) w' r [] v:=by
 have hO:∀ b,Own (Own O σ) [] b->Own O σ b:=λb hb=>hb.elim id λ⟨e,he,_⟩=>by simp at he
 have hg':Good (Own O σ) w []:=⟨?_,λi e ad he=>by simp at he,hg.stat.own hO⟩
 ·refine qJ.map (λw' h=>Kept.of h) ?_ (hc args [] _ hq (λ_=>rfl) (Own O σ) w [] vals hg' ⟨rfl,λi j e f a b he=>by simp at he,λi e a he=>by simp at he,λi e b he=>by simp at he⟩ (jb (K:=[]) ⟨rfl,rfl,rfl,aJ _,λ_ _ _=>rfl,λb hb=>.inl (hO b hb)⟩ (λi e he=>by simp at he) _ _ (wq _) hr));rintro v w' ⟨r',hs,Z',h1,h2,h3,h4,h5,h6,h7⟩;rcases h1 with h1 | h1
  ·cases h1;have hZ:Z'=[]:=aU.1 h3.len;subst hZ;exact⟨Kept.of h7,jE (λb hb=>.inl (.inl hb)) h2⟩
  ·cases h1;exact h2.elim
 ·intro b hb;rcases hb with hb | ⟨e,he,ad,h1,rfl⟩
  ·exact hg.old b hb
  ·obtain⟨i,hi⟩:=List.mem_iff_getElem?.1 he;exact hh.lt i e ad hi h1
theorem LeA.tup{l m:List AV}(h:LeL l m):LeA (.tup l) (.tup m):=by
 intro own w σ v hr;simp only [Rep] at hr ⊢;obtain⟨vs,hv,hr⟩:=hr;exact⟨vs,hv,h.rep hr⟩
section
variable {P:Program} {ops:Array Oper} {rest:List Oper} {o:Oper} {a:Act} {w w':World} {Q:Exit->Act->World->Prop}
theorem YS{v:Value}(hg:o.guard=none)(hd:∀ c,o.op≠.defer c)(hrun:(execOp a.eval o).run P w = .ok (.value v) w')(h:wpListIn Fence.wide 0 P ops Q rest (a.put o.dst v) w'):wpListIn Fence.wide 0 P ops Q (o::rest) a w:=
 wpListIn_plain hg λK hK=>jV (M:=none) hd (by unfold Oper.wp; rw [hrun]; exact hK _ _ h)
theorem step_skip(hg:o.guard=none)(hd:∀ c,o.op≠.defer c)(hrun:(execOp a.eval o).run P w = .ok .skip w')(h:wpListIn Fence.wide 0 P ops Q rest (a.put o.dst undef) w'):wpListIn Fence.wide 0 P ops Q (o::rest) a w:=
 wpListIn_plain hg λK hK=>jV (M:=none) hd (by unfold Oper.wp; rw [hrun]; exact hK _ _ h)
theorem V9{x:Operand}(hg:o.guard=none)(ho:o.op = .move x)(h:wpListIn Fence.wide 0 P ops Q rest (a.put o.dst (a.eval x)) w):wpListIn Fence.wide 0 P ops Q (o::rest) a w:=
 YS hg (by simp [ho]) (by simp only [execOp,ho]; rfl) h
theorem VZ{O:Nat->Prop}{σ:List SE}{hp:Heap}{t:TypeId}{x:Operand}{p r:AV}(hh:HRep (Own O σ) w σ hp)(hg:o.guard=none)(ho:o.op = .load t x)(hx:Rep (Own O σ) w p σ (a.eval x))(hq:uV P hp t p = .leaf r)
  (h:∀ v,Rep (Own O σ) w r σ v->wpListIn Fence.wide 0 P ops Q rest (a.put o.dst v) w):wpListIn Fence.wide 0 P ops Q (o::rest) a w:=by
 obtain⟨r',v,h1,h2,h3⟩:=uh (P:=P) hh hx (Q:=(· = r)) (by rw [hq]; exact rfl);subst h2;refine YS hg (by simp [ho]) ?_ (h v h3);simp only [execOp,ho,Sem.run_bind,h1,Result.andThen_ok,Sem.run_pure]
theorem WM{O:Nat->Prop}{σ:List SE}{hp:Heap}{t:TypeId}{x y:Operand}{i:Nat}{c r:AV}(hgd:Good O w σ)(hh:HRep (Own O σ) w σ hp)(hg:o.guard=none)(ho:o.op = .store t x y)(hx:Rep (Own O σ) w (.ptr i 0) σ (a.eval x))(hb:hp[i]?=some (.box [c]))(hn:zW P t=some 1)(hy:Rep (Own O σ) w r σ (a.eval y))(hc:cellsOf r=some [r])(h1:oneA r=true)
  (h:∀ w',Post O w σ hp ⟨.undef,[(i,.box [r])],[]⟩ undef w' σ->wpListIn Fence.wide 0 P ops Q rest (a.put o.dst undef) w'):wpListIn Fence.wide 0 P ops Q (o::rest) a w:=by
 obtain⟨w',h2,h3⟩:=kU (P:=P) hgd hh hx hb hn (zM hc hy) rfl (aJ _) (by simp [h1]);refine step_skip hg (by simp [ho]) ?_ (h w' h3);simp only [execOp,ho,Sem.run_bind,h2,Result.andThen_ok,Sem.run_pure]
theorem V6{Xp:List PanicEntry->Prop}{D:World->Prop}{R:Value->World->Prop}{c:Call}{f:Operand}{g:Nat}(hg:o.guard=none)(ho:o.op = .call c)(hc:c.callee = .value f)(hf:a.eval f = .func (.func g) #[] #[])(h:qJ Xp D P g (c.args.toList.map a.eval).toArray w R)
  (hK:∀ v w',R v w'->wpListIn Fence.wide 0 P ops Q rest (a.put o.dst v) w') (hP:∀ ch w',Xp ch->D w'->Q (.panic ch) a w'):wpListIn Fence.wide 0 P ops Q (o::rest) a w:=
 wpListIn_plain hg λK hKK=>jV (M:=none) (by simp [ho]) (by
  have hcall:(execOp a.eval o).run P w=(callFunc g (c.args.toList.map a.eval).toArray).run P w:=by
   obtain⟨callee,args,ats⟩:=c;simp only at hc;subst hc;simp only [execOp,ho,resolve,hf,Deferred.ofValue,Sem.run_bind,Sem.run_pure,Result.andThen_ok,invoke];congr 2;simp [<- Array.toList_inj]
  unfold Oper.wp;rcases h with ⟨h3,h4⟩ | ⟨v,w',h3,h4⟩
  ·rw [hcall,h3];refine h4.mono λe w' he=> ?_
   rcases he with ⟨v,he,hR⟩ | ⟨ch,he,h5,h6⟩
   ·subst he; exact hKK _ _ (hK _ _ hR)
   ·subst he; exact hP ch w' h5 h6
  ·rw [hcall,h3];exact hKK _ _ (hK _ _ h4))
theorem step_defer{c:Call}{f:Operand}{g:Nat}(hg:o.guard=none)(ho:o.op = .defer c)(hdst:o.dst=none)(hc:c.callee = .value f)(hf:a.eval f = .func (.func g) #[] #[])
  (h:wpListIn Fence.wide 0 P ops Q rest { a with defers:={ target:=.fn (.func g) #[],args:=(c.args.toList.map a.eval).toArray } :: a.defers } w):wpListIn Fence.wide 0 P ops Q (o::rest) a w:=
 wpListIn_plain hg λK hKK=>by
  obtain⟨callee,args,ats⟩:=c;simp only at hc;subst hc;refine⟨λf _=>trivial,?_⟩
  have:(Oper.semAt Fence.wide.round a.eval o).run P w = .ok (.defer { target:=.fn (.func g) #[],args:=(args.toList.map a.eval).toArray }) w:=by
   show(execOp a.eval o).run P w=_;simp only [execOp,ho,resolve,hf,Deferred.ofValue,Sem.run_bind,Sem.run_pure,Result.andThen_ok];congr 3;simp [<- Array.toList_inj]
  rw [this];simp only [Oper.uponIn,hdst];exact hKK _ _ h
theorem Jo{t:TypeId}{b:Nat}{old v:Value}(hn:zW P t=some 1)(hv:v.cells = #[v])(hc:w.cell? ⟨b,0,none⟩=some old)(hz:w.frozen? ⟨b,0,none⟩=false)(h1:v.oneCell'=true) :
  (Instr.storeAt t (.pointer (some ⟨b,0,none⟩)) v).run P w = .ok () (w.setCell ⟨b,0,none⟩ v):=by
 simp only [Instr.storeAt,Instr.sureAddr,Sem.run_bind,Sem.run_pure,Result.andThen_ok,storeVar,zA hn,hv];simp [storeCells,go_sem,hc,hz];rw [run_store _ _ _ _ _ h1,hc];simp [hz]
end
theorem yd{O:Nat->Prop}{w:World}{σ:List SE}{hp:Heap}{i:Nat}{c:AV}{v:Value}(hh:HRep (Own O σ) w σ hp)(hx:Rep (Own O σ) w (.ptr i 0) σ v)(hb:hp[i]?=some (.box [c])) :
  ∃ b u,v = .pointer (some ⟨b,0,none⟩)/\w.cell? ⟨b,0,none⟩=some u/\w.frozen? ⟨b,0,none⟩=false/\Rep (Own O σ) w c σ u/\∃ e ad,σ[i]?=some e/\e.ad=some ad/\ad.block=b:=by
 simp only [Rep] at hx;obtain⟨e,ad,he,had,rfl⟩:=hx;obtain⟨ad',vs,el,had',h0,hcs,hr⟩:=hh.blk i e _ he hb;rw [had] at had';cases had';simp only [RepL] at hr;obtain⟨u,r,rfl,h1,rfl⟩:=hr;refine⟨ad.block,u,by rw [h0],?_,?_,h1,e,ad,he,had,rfl⟩
 ·simp [World.cell?,hcs]
 ·simp [World.frozen?,hcs]
end Go.Sx
end
section
set_option maxRecDepth 100000
open Go Go.Sx Go.Proofs Go.Nov
namespace Go.Proofs.Tryz
attribute [local simp] eqKV eqA eqA0 eqH eqB eqL eqL0
def fitC(c:Con):Prop:=c.big<2^37/\c.nodes<=1000000
theorem zox(v:Ver):LeA (.sl 1 13 (zg (zi 13 v.cells) 0)) (.sl [v].length 13 (verG [v])):=LeA.sl rfl λj o hj ho=>by
 have:j=0:=by omega
 subst this
 match o,ho with
 | 0,_=>exact LeA.refl _
 | 1,_=>exact LeA.refl _
 | 2,_=>exact LeA.refl _
 | 3,_=>exact LeA.refl _
 | 4,_=>exact LeA.refl _
 | 5,_=>exact LeA.refl _
 | 6,_=>exact LeA.refl _
 | 7,_=>exact LeA.refl _
 | 8,_=>exact LeA.refl _
 | 9,_=>exact LeA.refl _
 | 10,_=>exact LeA.refl _
 | 11,_=>exact LeA.refl _
 | 12,_=>exact LeA.refl _
theorem zgy{s:List Ver}(v:Ver){j o:Nat}(hj:j<s.length+1)(ho:o<13):zg (appG s.length (verG (s.take s.length)) (zg (zi 13 v.cells) 0)) 0 j o=verG (s++[v]) j o:=by
 simp only [zg,appG,zi,Nat.zero_add,bD];by_cases h:j<s.length
 ·rw [aP h];unfold verG;have:(s++[v]).getD j Ver.nil=s.getD j Ver.nil:=by simp [List.getD,bT,h]
  rw [this]
 ·have e:j=s.length:=by omega
  subst e;rw [aO h];unfold verG;have e2:(s++[v]).getD s.length Ver.nil=v:=by simp [List.getD]
  have e:s.length - s.length=0:=by omega
  rw [e2,e]
  match o,ho with
  | 0,_=>rfl
  | 1,_=>rfl
  | 2,_=>rfl
  | 3,_=>rfl
  | 4,_=>rfl
  | 5,_=>rfl
  | 6,_=>rfl
  | 7,_=>rfl
  | 8,_=>rfl
  | 9,_=>rfl
  | 10,_=>rfl
  | 11,_=>rfl
  | 12,_=>rfl
theorem z7(s:List Ver):eqA (verA s) (verA s):=⟨⟨rfl,rfl,za _ _ _⟩,trivial⟩
def zle:Ctr:=ctrP false (λp:Con×Int=>[p.1.conA,.i p.2]) (λp=>fitC p.1) (λp r=>r=newV p.1 p.2) (λ_ (r:List Ver×Int)=>(.tup [verA r.1,.i r.2],[]))
noncomputable def GNv:=tb yu (tb yo (tb yT tz))
theorem zct:zf prog 24 zle:=by
 refine zh' f24 λp hp O w0 Q hq=> ?_
 obtain⟨c,d⟩:=p;replace hq:=hq _ rfl;obtain⟨h1,h2⟩:=hp;simp only at h1 h2 hq;refine zc.n GNv.h [] (.ex (q31 [(Con.conA c)]) λn=>.all (λ(r:Int)=>r=Con.errC n) λn=>.N (n=0) (.R [.agg [.nils],.i n] [.box (Con.ze c),.box [.nils]]) (.ex (q21 [.i d]) λn=>.all (λ(r:Bool)=>r=vM n) λn=>.ite (!n) (.R [.agg [.nils],.i 2] [.box (Con.ze c),.box [.nils]]) (.ex (q35 [.i d,(Con.conA c)]) λn=>let v1:=Con.x n.con;.A λn_1=>.R [.agg [.osl 2 13 0 1],.i 0] [.box (Con.ze c),.box [.osl 2 13 0 1],.arr 1 13 (zi 13 [.i n.day,.int .u8 (Con.kind n.con),.str (Con.src n.con),.str (Con.dst n.con),.str (Con.name n.con),.int .u8 (Ex.kind v1),.str (Ex.rat v1),.str (Ex.name v1),.i (Ex.date v1),.sl (List.length (Ex.sub v1)) 5 (Ex.exG (Ex.sub v1)),.i (Con.date n.con),.sl (List.length (Con.days n.con)) 1 (Con.dayG (Con.days n.con)),.sl (List.length (Con.sub n.con)) 12 (Con.deep n.con)])]))) ?_;simp only [q21,q31,q35,Tree.holds,zd,inR,lo,hi,aD];have h8:∀ {e:Int},(!decide (e=0))=true->e≠0:=λh he=>by rw [he] at h; cases h
 have h9:∀ {e:Int},(!decide (e=0))=false->e=0:=λ{e} h=>by
  by_cases he:e=0
  ·exact he
  ·rw [aW he] at h; cases h
 refine⟨c,⟨⟨qx c,trivial⟩,by omega,h2⟩,⟨_,rfl⟩,?_⟩;rintro _ rfl;refine⟨λg=> ?_,λg=>⟨d,⟨⟨⟨rfl,rfl⟩,trivial⟩,trivial⟩,⟨_,rfl⟩,?_⟩⟩
 ·unfold newV at hq;rw [aP (h8 g)] at hq;exact RetR.le0 hq (λh=>by cases h) (LeA.tup ⟨LeA.agg ⟨LeA.nils,trivial⟩,LeA.refl _,trivial⟩)
 ·rintro _ rfl;have g:=h9 g;unfold newV at hq;rw [aO (λh=>h g)] at hq;refine⟨λg2=> ?_,λg2=>⟨⟨d,c⟩,⟨⟨⟨rfl,rfl⟩,qx c,trivial⟩,by show c.big<_; omega⟩,⟨(),trivial⟩,λ_ _=> ?_⟩⟩
  ·rw [aP (by simpa using g2)] at hq;exact RetR.le0 hq (λh=>by cases h) (LeA.tup ⟨LeA.agg ⟨LeA.nils,trivial⟩,LeA.refl _,trivial⟩)
  ·rw [aO (by simp at g2; rw [g2]; simp)] at hq;exact RetR.le0 hq (λh=>by cases h) (LeA.tup ⟨LeA.agg ⟨zox _,trivial⟩,LeA.refl _,trivial⟩)
def zj5:Ctr:=ctrP false (λp:List Ver×Int×Con=>[verA p.1,.i p.2.1,p.2.2.conA]) (λp=>p.1.length<2^30/\fitV p.1/\fitC p.2.2) (λp r=>r=chgV p.1 p.2.1 p.2.2) (λ_ (r:List Ver×Int)=>(.tup [verA r.1,.i r.2],[]))
noncomputable def GCh:=tb y2 (tb yu (tb yo (tb yT (tb zf7 tz))))
abbrev q37(A:List AV)(x:List Ver×Nat):Prop:=eqL A [.agg [.sl x.1.length 13 (verG x.1)],.i x.2]/\x.2<=x.1.length/\x.1.length<1073741824/\fitV x.1
abbrev q36(A:List AV)(x:List Ver):Prop:=eqL A [.agg [.sl x.length 13 (verG x)]]/\x.length<1099511627776/\fitV x
theorem zby:zf prog 15 zj5:=by
 refine zh' f15 λp hp O w0 Q hq=> ?_
 obtain⟨s,d,c⟩:=p;replace hq:=hq _ rfl;obtain⟨h1,h2,h3⟩:=hp;simp only at h1 h2 h3 hq;refine zc.n GCh.h [] (let v2:List Blk:=[.box [.sl s.length 13 (verG s)],.box (Con.ze c),.box [.nils]];.ex (q36 [.agg [.sl s.length 13 (verG s)]]) λn=>.all (λ(r:Int)=>r=errV n) λn=>.N (n=0) (.R [.agg [.nils],.i n] v2) (.ex (q31 [(Con.conA c)]) λn=>.all (λ(r:Int)=>r=Con.errC n) λn=>.N (n=0) (.R [.agg [.nils],.i n] v2) (.ex (q21 [.i d]) λn=>.all (λ(r:Bool)=>r=vM n) λn=>.ite (!n) (.R [.agg [.nils],.i 2] v2) (.S (s.length-1) (.side ((0:Int)<=s.length - (1:Int)/\(s.length:Int) - (1:Int)<s.length) (.D (d<=Ver.day (s.getD (Int.toNat (s.length-1)) Ver.nil)) (.R [.agg [.nils],.i 40] v2) (.D ((s.length:Int)=100) (.R [.agg [.nils],.i 22] v2) (.ex (q37 [.agg [.sl s.length 13 (verG s)],.i s.length]) λn=>let v4:List AV:=[.osl 3 13 0 (n.2+1)];.A λn_1=>.ex (q35 [.i d,(Con.conA c)]) λn_2=>let v3:=Ver.con n_2;let v1:=zi 13 [.i n_2.day,.int .u8 (Con.kind v3),.str (Con.src v3),.str (Con.dst v3),.str (Con.name v3),.int .u8 (Ex.kind (Con.x v3)),.str (Ex.rat (Con.x v3)),.str (Ex.name (Con.x v3)),.i (Ex.date (Con.x v3)),.sl (List.length (Ex.sub (Con.x v3))) 5 (Ex.exG (Ex.sub (Con.x v3))),.i (Con.date v3),.sl (List.length (Con.days v3)) 1 (Con.dayG (Con.days v3)),.sl (List.length (Con.sub v3)) 12 (Con.deep v3)];.A λn_3=>.side (0=0/\n.2<=n.2/\(n.2+1)*192<=140737488355328) (.R [.agg v4,.i 0] [.box [.sl s.length 13 (verG s)],.box (Con.ze c),.box v4,.arr (n.2+1) 13 (appG n.2 (verG (List.take n.2 n.1)) (zg v1 0)),.box v4,.arr 1 13 v1]))))))))) ?_;simp only [q21,q31,q35,q36,q37,Tree.holds,zd,inR,lo,hi,aD];have h8:∀ {e:Int},(!decide (e=0))=true->e≠0:=λh he=>by rw [he] at h; cases h
 have h9:∀ {e:Int},(!decide (e=0))=false->e=0:=λ{e} h=>by
  by_cases he:e=0
  ·exact he
  ·rw [aW he] at h; cases h
 have nil:∀ e:Int,LeA (.tup [.agg [.nils],.i e]) (.tup [verA [],.i e]):=λe=>LeA.tup ⟨LeA.agg ⟨LeA.nils,trivial⟩,LeA.refl _,trivial⟩
 refine⟨s,⟨⟨z7 s,trivial⟩,by omega,h2⟩,⟨_,rfl⟩,?_⟩;rintro _ rfl;unfold chgV at hq;refine⟨λg=> ?_,λg=>⟨c,⟨⟨qx c,trivial⟩,by have:=h3.1; omega,h3.2⟩,⟨_,rfl⟩,?_⟩⟩
 ·rw [aP (h8 g)] at hq;exact RetR.le0 hq (λh=>by cases h) (nil _)
 rintro _ rfl;have g:=h9 g;rw [aO (λh=>h g)] at hq;have hlen:=Zb (w7.1 g);refine⟨λg2=> ?_,λg2=>⟨d,⟨⟨⟨rfl,rfl⟩,trivial⟩,trivial⟩,⟨_,rfl⟩,?_⟩⟩
 ·rw [aP (h8 g2)] at hq;exact RetR.le0 hq (λh=>by cases h) (nil _)
 rintro _ rfl;have g2:=h9 g2;rw [aO (λh=>h g2)] at hq;refine⟨λg3=> ?_,λg3=> ?_⟩
 ·rw [aP (by simpa using g3)] at hq;exact RetR.le0 hq (λh=>by cases h) (nil _)
 rw [aO (by simp at g3; rw [g3]; simp)] at hq;have hn1:((s.length:Int) - 1).toNat=s.length - 1:=by omega
 rw [hn1];refine⟨by omega,λ_=>⟨by omega,λ_=>⟨λg4=> ?_,λg4=>⟨λg5=> ?_,λg5=> ?_⟩⟩⟩⟩
 ·rw [aP (aB g4)] at hq;exact RetR.le0 hq (λh=>by cases h) (nil _)
 ·rw [aO (aC g4),aP (by have:=aB g5; omega)] at hq;exact RetR.le0 hq (λh=>by cases h) (nil _)
 rw [aO (aC g4),aO (by have:=aC g5; omega)] at hq;refine⟨(s,s.length),⟨⟨z7 s,⟨rfl,rfl⟩,trivial⟩,aJ _,h1,h2⟩,⟨(),trivial⟩,λ_ _=> ?_⟩;refine⟨⟨d,c⟩,⟨⟨⟨rfl,rfl⟩,qx c,trivial⟩,by show c.big<_; have:=h3.1; omega⟩,⟨(),trivial⟩,λ_ _=> ?_⟩;refine⟨⟨trivial,aJ _,by show(s.length+1)*192<=_; omega⟩,λ_=> ?_⟩;refine RetR.le0 hq (λh=>by cases h) (LeA.tup ⟨LeA.agg ⟨LeA.sl (by simp) λj o hj ho=> ?_,trivial⟩,LeA.refl _,trivial⟩);show LeA (zg (appG s.length (verG (s.take s.length)) (zg (zi 13 (Ver.mk d c).cells) 0)) 0 j o) _;rw [zgy ⟨d,c⟩ hj ho];exact LeA.refl _
def zq8:Ctr:=ctrP false (λs:List Ver=>[verA s]) (λs=>s.length<2^30/\fitV s) (λs r=>r=undV s) (λ_ (r:List Ver×Int)=>(.tup [verA r.1,.i r.2],[]))
theorem znz:zf prog 16 zq8:=by
 refine zh' f16 λs hp O w0 Q hq=> ?_
 replace hq:=hq _ rfl;obtain⟨h1,h2⟩:=hp;refine zc.n GCh.h [] (let v1:List AV:=[.sl s.length 13 (verG s)];.ex (q36 [.agg [.sl s.length 13 (verG s)]]) λn=>.all (λ(r:Int)=>r=errV n) λn=>.N (n=0) (.R [.agg [.nils],.i n] [.box v1,.box [.nils]]) (.D ((s.length:Int)=1) (.R [.agg [.nils],.i 6] [.box v1,.box [.nils]]) (.S (s.length-1) (.ex (q37 [.agg [.sl s.length 13 (verG s)],.i (s.length-1)]) λn=>.A λn_1=>.R [.agg [.osl 2 13 0 n.2],.i 0] [.box v1,.box [.osl 2 13 0 n.2],.arr n.2 13 (verG (List.take n.2 n.1))])))) ?_;simp only [q36,q37,Tree.holds,zd,inR,lo,hi,aD];have h8:∀ {e:Int},(!decide (e=0))=true->e≠0:=λh he=>by rw [he] at h; cases h
 have h9:∀ {e:Int},(!decide (e=0))=false->e=0:=λ{e} h=>by
  by_cases he:e=0
  ·exact he
  ·rw [aW he] at h; cases h
 have nil:∀ e:Int,LeA (.tup [.agg [.nils],.i e]) (.tup [verA [],.i e]):=λe=>LeA.tup ⟨LeA.agg ⟨LeA.nils,trivial⟩,LeA.refl _,trivial⟩
 refine⟨s,⟨⟨z7 s,trivial⟩,by omega,h2⟩,⟨_,rfl⟩,?_⟩;rintro _ rfl;unfold undV at hq;refine⟨λg=> ?_,λg=> ?_⟩
 ·rw [aP (h8 g)] at hq;exact RetR.le0 hq (λh=>by cases h) (nil _)
 have g:=h9 g;rw [aO (λh=>h g)] at hq;have hlen:=Zb (w7.1 g);refine⟨λg2=> ?_,λg2=> ?_⟩
 ·have g2:=aB g2;rw [aP (by omega)] at hq;exact RetR.le0 hq (λh=>by cases h) (nil _)
 have g2:=aC g2;rw [aO (by omega)] at hq;have hn1:(s.length:Int) - 1=((s.length - 1:Nat):Int):=by omega
 rw [hn1];refine⟨by omega,λ_=>⟨(s,s.length - 1),⟨⟨z7 s,⟨rfl,rfl⟩,trivial⟩,by show s.length - 1<=s.length; omega,h1,h2⟩,⟨(),trivial⟩,λ_ _=> ?_⟩⟩;exact RetR.le0 hq (λh=>by cases h) (LeA.tup ⟨LeA.agg ⟨LeA.sl (by simp) λj o hj ho=>by rw [x8 s.length 13 _ j o (by show j<s.length; have:j<s.length - 1:=hj; omega) ho]; exact LeA.refl _,trivial⟩,LeA.refl _,trivial⟩)
def zqm:Ctr:=ctrP false (λp:Fl=>[.i p.date,.str p.src,.str p.dst,.str p.ccy,.str p.amt]) (λp=>p.amt≠[]/\p.amt.length<2^40) (λ_ (_:Unit)=>True) (λp _=>(.osl 0 5 0 (payF p.date p.src p.dst p.ccy p.amt).length,[.arr (payF p.date p.src p.dst p.ccy p.amt).length 5 (flG (payF p.date p.src p.dst p.ccy p.amt))]))
theorem zmx:zf prog 123 zqm:=by
 refine QZ (fn:=f123) (c:=f123.body.getD .skip) rfl rfl rfl λp hp O w0 Q hq=> ?_
 obtain⟨d,a,b,n,r⟩:=p;obtain⟨h1,h2⟩:=hp;simp only at h1 h2;replace hq:=hq () trivial;simp only at hq;refine zc.n zH [] (.D (r=#[(48:UInt8)].toList) (.R [.nils] []) (.side ((0:Int)<=0/\(0:Int)<r.length) (.D ((↑(UInt8.toNat (r.getD 0 (0:UInt8))):Int)=45) (.side ((0:Int)<=1/\(1:Int)<=r.length) (.R [.osl 0 5 0 1] [.arr 1 5 (zi 5 [.i d,.str b,.str a,.str n,.str (List.drop 1 (List.take r.length r))])])) (.R [.osl 0 5 0 1] [.arr 1 5 (zi 5 [.i d,.str a,.str b,.str n,.str r])])))) ?_;simp only [Tree.holds,zd];have hl:0<r.length:=List.length_pos_iff.2 h1
 have e45:decide (((r.getD 0 0).toNat:Int)=45)=decide (r.getD 0 0=45):=by
  by_cases e:r.getD 0 0=45
  ·rw [e]; rfl
  ·rw [aW e,aW];intro h;refine e (UInt8.toNat_inj.1 ?_);show _=45;omega
 rw [e45];unfold payF at hq;refine⟨λh=> ?_,λh=>⟨⟨Int.le_refl _,by omega⟩,λ_=>⟨λh'=>⟨⟨by decide,by omega⟩,λ_=> ?_⟩,λh'=> ?_⟩⟩⟩
 ·rw [aP (aB h)] at hq;exact RetR.le0 (Q:=upQ Q) (r:=.nils) (.inr ⟨.osl 0 5 0 0,[(5,flG [])],⟨⟨aJ _,Nat.zero_lt_one⟩,rfl,rfl⟩,hq⟩) (λh=>by cases h) (LeA.refl _)
 ·rw [aO (aC h),aP (aB h')] at hq;rw [bD]
  exact RetR.zcb (Q:=upQ Q) [0] rfl rfl (by simp) rfl (.inl hq) (LeA.refl _) ⟨LeB.arr λj o hj ho=>by
   rcases(show j=0 by omega) with rfl;rcases(show o=0\/o=1\/o=2\/o=3\/o=4 by omega) with rfl | rfl | rfl | rfl | rfl<;>exact LeA.refl _,trivial⟩
 ·rw [aO (aC h),aO (aC h')] at hq
  exact RetR.zcb (Q:=upQ Q) [0] rfl rfl (by simp) rfl (.inl hq) (LeA.refl _) ⟨LeB.arr λj o hj ho=>by
   rcases(show j=0 by omega) with rfl;rcases(show o=0\/o=1\/o=2\/o=3\/o=4 by omega) with rfl | rfl | rfl | rfl | rfl<;>exact LeA.refl _,trivial⟩
noncomputable def K113:=Go.Sx.aA f113
def zqj:Ctr:=ctrP true (λp:Fl×Fl=>[p.1.av,p.2.av]) (λ_=>True) (λ_ (_:Unit)=>True) (λp _=>(.bool (decide (p.1.date<p.2.date)),[]))
theorem zmd:zf prog 80 zqj:=by
 refine zh' f80 λp hp O w0 Q hq=> ?_
 obtain⟨⟨d,a,b,n,r⟩,⟨d',a',b',n',r'⟩⟩:=p;replace hq:=hq () trivial;refine zc.n zH [] (.R [.bool (decide (d<d'))] [.box [.i d,.str a,.str b,.str n,.str r],.box [.i d',.str a',.str b',.str n',.str r']]) ?_;simp only [Tree.holds,zd];exact RetR.scal hq rfl (by simp [resV])
theorem QG{o a:List Fl}{m n:Nat}(hm:m=o.length)(hn:n=a.length):eqG (m+n) 5 (appG m (flG o) (flG a)) (flG (o++a)):=by
 intro j k hj hk;subst hm hn;simp only [appG,flG,List.getD_eq_getElem?_getD,bT];split<;>rfl
theorem Ua{o:List Fl}{x:Fl} : eqG (o.length+1) 5 (appG o.length (flG o) (zg (zi 5 [.i x.date,.str x.src,.str x.dst,.str x.ccy,.str x.amt]) 0)) (flG (o++[x])):=by
 intro j k hj hk;simp only [appG,flG,List.getD_eq_getElem?_getD,bT];split
 ·rfl
 ·have e:j - o.length=0:=by omega
  rw [e];rcases(show k=0\/k=1\/k=2\/k=3\/k=4 by omega) with rfl | rfl | rfl | rfl | rfl<;>rfl
theorem XU{x:Fl}{l:List Fl}{n:Nat} : eqG n 5 (zg (flG (x::l)) 1) (flG l):=by
 intro j k hj hk;simp only [zg,flG,Nat.add_comm 1 j,List.getD_cons_succ]
def SMg(a b:List Fl)(n:Nat):KV:=[(0,flS a),(1,flS b),(2,.fn 80 [] []),(7,.osl 0 5 0 n),Z 12,Z 13,Z 14]
def zh5:Ctr:=ctrP false (λp:List Fl×List Fl=>[flS p.1,flS p.2,.fn 80 [] []]) (λp=>p.1.length+p.2.length<2^36) (λ_ (_:Unit)=>True) (λp _=>(flS (qz (p.1.length+p.2.length) p.1 p.2),[]))
noncomputable def GBx:=tb zmd tz
theorem zg2:zf prog 113 zh5:=by
 refine zh' f113 λp hp O w0 Q hq=> ?_
 obtain⟨a,b⟩:=p;simp only at hp;replace hq:=hq () trivial;simp only at hq;refine zc.n GBx.h [0,1,2,7,12,13,14] (.leaf (.loop (lps K113 0).1 (lps K113 0).2 [(0,.sl a.length 5 (flG a)),(1,.sl b.length 5 (flG b)),(2,.fn 80 [] []),(7,.nils),Z 12,Z 13,Z 14] [])) ?_;simp only [Tree.holds,zd,inR,lo,hi,aD];refine zc.bear 7 5 (flG []) rfl (by decide) (by kernel_rfl) ?_;refine zc.loop (ι:={z:List Fl×List Fl×List Fl // z.1++qz (z.2.1.length+z.2.2.length) z.2.1 z.2.2=qz (a.length+b.length) a b/\z.1.length+z.2.1.length+z.2.2.length=a.length+b.length}) (λz=>SMg z.1.2.1 z.1.2.2 z.1.1.length) (λz=>[.arr z.1.1.length 5 (flG z.1.1)]) (λz=>z.1.2.1.length+z.1.2.2.length) ⟨([],a,b),by simp⟩ 0 ?_ ?_ (by kernel_rfl)
 ·exact⟨by simp [SMg,yR,za,flS],by simp [za],by kernel_rfl,aI _⟩
 ·rintro⟨⟨o,a',b'⟩,h1,h2⟩;simp only at h1 h2;refine zc.n GBx.h [0,1,2,7,12,13,14] (let v6:=o.length+1;let v5:=o.length+List.length a'+List.length b';let v2:=a'.getD 0 Fl.nil;let v4:=zi 5 [.i v2.date,.str v2.src,.str v2.dst,.str v2.ccy,.str v2.amt];let v1:=b'.getD 0 Fl.nil;let v3:=zi 5 [.i v1.date,.str v1.src,.str v1.dst,.str v1.ccy,.str v1.amt];.ite (bif decide ((0:Int)<(a'.length:Int)) then decide ((0:Int)<(b'.length:Int)) else false) (.side ((0:Int)<=0/\(0:Int)<(b'.length:Int)) (.side ((0:Int)<=0/\(0:Int)<(a'.length:Int)) (.ex (λ(x:Fl×Fl)=>eqL [.agg [.i v1.date,.str v1.src,.str v1.dst,.str v1.ccy,.str v1.amt],.agg [.i v2.date,.str v2.src,.str v2.dst,.str v2.ccy,.str v2.amt]] [.agg [.i x.1.date,.str x.1.src,.str x.1.dst,.str x.1.ccy,.str x.1.amt],.agg [.i x.2.date,.str x.2.src,.str x.2.dst,.str x.2.ccy,.str x.2.amt]]/\True) λn=>.A λn_1=>.D (Fl.date n.1<Fl.date n.2) (.side ((0:Int)<=0/\(0:Int)<(b'.length:Int)) (.side ((0:Int)<=1/\(1:Int)<=(b'.length:Int)) (.side (0=0/\o.length<=o.length/\v6 *72<=140737488355328) (.leaf (.back 0 [(0,.sl a'.length 5 (flG a')),(1,.sl (List.length b' - 1) 5 (zg (flG b') 1)),(2,.fn 80 [] []),(7,.osl 0 5 0 v6),Z 12,Z 13,Z 14] [.arr v6 5 (appG o.length (flG o) (zg v3 0)),.arr 1 5 v3]))))) (.side ((0:Int)<=0/\(0:Int)<(a'.length:Int)) (.side ((0:Int)<=1/\(1:Int)<=(a'.length:Int)) (.side (0=0/\o.length<=o.length/\v6 *72<=140737488355328) (.leaf (.back 0 [(0,.sl (List.length a' - 1) 5 (zg (flG a') 1)),(1,.sl b'.length 5 (flG b')),(2,.fn 80 [] []),(7,.osl 0 5 0 v6),Z 12,Z 13,Z 14] [.arr v6 5 (appG o.length (flG o) (zg v4 0)),.arr 1 5 v4])))))))) (.side (0=0/\o.length<=o.length/\(o.length+List.length a')*72<=140737488355328) (.side (0=0/\o.length+List.length a'<=o.length+List.length a'/\v5 *72<=140737488355328) (.R [.osl 0 5 0 v5] [.arr v5 5 (appG (o.length+List.length a') (appG o.length (flG o) (flG a')) (flG b'))])))) ?_;simp only [Tree.holds,zd,inR,lo,hi,aD];refine⟨λhlt=> ?_,λhge=> ?_⟩
  ·match a',b' with
   | [],_=>simp at hlt
   | x::a',[]=>simp at hlt
   | x::a',y::b'=>
    simp only [aL] at h1 h2 ⊢;have e1:(x::a').getD 0 Fl.nil=x:=rfl;have e2:(y::b').getD 0 Fl.nil=y:=rfl;rw [e1,e2];rw [show a'.length+1+(b'.length+1)=(a'.length+b'.length+1)+1 by omega,qz] at h1;refine⟨⟨Int.le_refl _,by omega⟩,λ_=>⟨⟨Int.le_refl _,by omega⟩,λ_=>⟨(y,x),⟨by simp,trivial⟩,⟨(),trivial⟩,λ_ _=>⟨λh=> ?_,λh=> ?_⟩⟩⟩⟩
    ·replace h:=aB h;rw [aP h] at h1;refine⟨⟨Int.le_refl _,by omega⟩,λ_=>⟨⟨by decide,by omega⟩,λ_=>⟨⟨trivial,aJ _,by omega⟩,λ_=> ?_⟩⟩⟩;rw [aP trivial];refine⟨⟨(o++[y],x::a',b'),?_,?_⟩,?_,?_,?_,by kernel_rfl,aI _⟩
     ·show _=_;rw [<- h1]; simp; try congr 1; try omega
     ·show _=_;simp; omega
     ·show _<_;simp
     ·refine⟨rfl,⟨rfl,rfl,λ_ _ _ _=>rfl⟩,rfl,⟨rfl,rfl,XU⟩,rfl,rfl,rfl,⟨rfl,rfl,rfl,by simp⟩,by simp⟩
     ·exact⟨⟨by simp,rfl,Ua⟩,trivial⟩
    ·replace h:=aC h;rw [aO h] at h1;refine⟨⟨Int.le_refl _,by omega⟩,λ_=>⟨⟨by decide,by omega⟩,λ_=>⟨⟨trivial,aJ _,by omega⟩,λ_=> ?_⟩⟩⟩;rw [aP trivial];refine⟨⟨(o++[x],a',y::b'),?_,?_⟩,?_,?_,?_,by kernel_rfl,aI _⟩
     ·show _=_;rw [<- h1]; simp; try congr 1; try omega
     ·show _=_;simp; omega
     ·show _<_;simp
     ·exact⟨rfl,⟨rfl,rfl,XU⟩,rfl,⟨rfl,rfl,λ_ _ _ _=>rfl⟩,rfl,rfl,rfl,⟨rfl,rfl,rfl,by simp⟩,by simp⟩
     ·exact⟨⟨by simp,rfl,Ua⟩,trivial⟩
  ·have he:qz (a'.length+b'.length) a' b'=a'++b':=by
    match a',b' with
    | [],b'=>rw [xt]; rfl
    | a',[]=>rw [yE]; simp
    | x::a',y::b'=>
     have:decide ((0:Int)<((x::a').length:Int))=true:=aX (by simp);rw [this] at hge;have:decide ((0:Int)<((y::b').length:Int))=true:=aX (by simp);rw [this] at hge;cases hge
   rw [he] at h1;rw [<- h1] at hq;refine⟨⟨trivial,aJ _,by omega⟩,λ_=>⟨⟨trivial,aJ _,by omega⟩,λ_=> ?_⟩⟩;refine RetR.le0 hq (λh=>by cases h) (LeA.sl (by simp; omega) λj k hj hk=> ?_);rw [<- List.append_assoc];have:=QG (o:=o++a') (a:=b') (m:=o.length+a'.length) (n:=b'.length) (by simp) rfl j k hj hk;rw [<- this];simp only [zg,Nat.zero_add,appG];split
   ·rename_i hlt;have:=QG (o:=o) (a:=a') rfl rfl j k hlt hk;simp only [appG] at this;rw [this];exact LeA.refl _
   ·exact LeA.refl _
def ordC(n:Nat):Ctr:=ctrP false (λl:List Fl=>[flS l,.fn 80 [] []]) (λl=>l.length<n/\l.length<2^36) (λ_ (_:Unit)=>True) (λl _=>(flS (ordM l),[]))
noncomputable def GMg:=tb zg2 tz
noncomputable def GOr(n:Nat):Nat->Option Ctr:=λf=>if f=78 then some (ordC n) else GMg.g f
theorem zsy{n:Nat}(h:zf prog 78 (ordC n)):∀ f c,GOr n f=some c->zf prog f c:=by
 intro f c hf;simp only [GOr] at hf;split at hf
 ·rename_i hg; subst hg; cases hf; exact h
 ·exact GMg.h f c hf
theorem zhd(n:Nat)(ih:zf prog 78 (ordC n)):zf prog 78 (ordC (n+1)):=by
 refine zh' f78 λl hp O w0 Q hq=> ?_
 obtain⟨h1,h2⟩:=hp;replace hq:=hq () trivial;refine zc.n (zsy ih) [] (let v1:=Int.tdiv (l.length:Int) (2:Int);.D ((l.length:Int)<2) (.R [.sl l.length 5 (flG l)] []) (.side ((2:Int)≠0/\inR .i64 v1) (.side ((0:Int)<=Int.tdiv (l.length:Int) (2:Int)/\Int.tdiv (l.length:Int) (2:Int)<=l.length) (.side ((0:Int)<=Int.tdiv (l.length:Int) (2:Int)/\Int.tdiv (l.length:Int) (2:Int)<=l.length) (.ex (λ(x:List Fl)=>eqL [.sl (Int.toNat v1 - 0) 5 (zg (flG l) 0),.fn 80 [] []] [.sl x.length 5 (flG x),.fn 80 [] []]/\x.length<n/\x.length<68719476736) λn_1=>.A λn_2=>.ex (λ(x:List Fl)=>eqL [.sl (l.length - Int.toNat v1) 5 (zg (flG l) (Int.toNat v1)),.fn 80 [] []] [.sl x.length 5 (flG x),.fn 80 [] []]/\x.length<n/\x.length<68719476736) λn=>.A λn_3=>.ex (λ(x:List Fl×List Fl)=>eqL [.sl (ordM n_1).length 5 (flG (ordM n_1)),.sl (ordM n).length 5 (flG (ordM n)),.fn 80 [] []] [.sl x.1.length 5 (flG x.1),.sl x.2.length 5 (flG x.2),.fn 80 [] []]/\x.1.length+x.2.length<68719476736) λn=>let v2:=qz (n.1.length+n.2.length) n.1 n.2;.A λn_4=>.R [.sl (List.length v2) 5 (flG v2)] []))))) ?_;simp only [Tree.holds,zd,inR,lo,hi,aD];have et:((l.length:Int).tdiv 2)=((l.length/2:Nat):Int):=rfl;rw [et];simp only [aD];refine⟨λh=> ?_,λh=> ?_⟩
 ·have hl:l.length<2:=by have:=aB h; omega
  have he:ordM l=l:=by rw [<- Zh (n:=2) (by omega),ordP,aP hl]
  rw [he] at hq;exact RetR.le0 hq (λh=>by cases h) (LeA.refl _)
 ·have hl:2<=l.length:=by have:=aC h; omega
  have ho:∀ m:List Fl,(ordM m).length=m.length:=λm=>by rw [<- Zh (aJ _)]; exact(Zj m.length m (aJ _)).2.2
  have he:ordM l=qz ((ordM (l.take (l.length/2))).length+(ordM (l.drop (l.length/2))).length) (ordM (l.take (l.length/2))) (ordM (l.drop (l.length/2))):=by
   rw [<- Zh (l:=l) (n:=l.length+1) (by omega),ordP,aO (by omega),Zh (by rw [aH]; omega),Zh (by rw [bW]; omega),ho,ho,aH,bW];congr 1; omega
  rw [he] at hq;refine⟨⟨by decide,by omega,by omega⟩,λ_=>⟨⟨by omega,by omega⟩,λ_=>⟨⟨by omega,by omega⟩,λ_=>⟨l.take (l.length/2),⟨⟨⟨by rw [aH]; omega,rfl,?_⟩,rfl,trivial⟩,by rw [aH]; omega,by rw [aH]; omega⟩,⟨(),trivial⟩,λ_ _=>⟨l.drop (l.length/2),⟨⟨⟨by rw [bW],rfl,?_⟩,rfl,trivial⟩,by rw [bW]; omega,by rw [bW]; omega⟩,⟨(),trivial⟩,λ_ _=>⟨(ordM (l.take (l.length/2)),ordM (l.drop (l.length/2))),⟨⟨⟨rfl,rfl,λ_ _ _ _=>rfl⟩,⟨rfl,rfl,λ_ _ _ _=>rfl⟩,rfl,trivial⟩,by simp only [ho,aH,bW]; omega⟩,⟨(),trivial⟩,λ_ _=> ?_⟩⟩⟩⟩⟩⟩
  ·intro j k hj hk;simp only [zg,flG,Nat.zero_add,List.getD_eq_getElem?_getD,bR];rw [aP (by omega)]
  ·intro j k hj hk;simp only [zg,flG,List.getD_eq_getElem?_getD,List.getElem?_drop]
  ·exact RetR.le0 hq (λh=>by cases h) (LeA.refl _)
theorem zn8(n:Nat):zf prog 78 (ordC n):=by
 induction n with
 | zero=>
  intro args hc Q hq _;simp only [ordC,ctrP] at hq;split at hq
  ·obtain⟨x,⟨_,h,_⟩,_⟩:=hq;exact absurd h (Nat.not_lt_zero _)
  ·exact hq.elim
 | succ n ih=>exact zhd n ih
def zif:Ctr:=ctrP false (λl:List Fl=>[flS l,.fn 80 [] []]) (λl=>l.length<2^36) (λ_ (_:Unit)=>True) (λl _=>(flS (ordM l),[]))
theorem zrn:zf prog 78 zif:=by
 intro args hc Q hq hf;refine zn8 (2^36) args hc Q ?_ hf;simp only [zif,ordC,ctrP] at hq ⊢;split at hq
 ·obtain⟨x,⟨h1,h2⟩,h3⟩:=hq;exact⟨x,⟨h1,h2,h2⟩,h3⟩
 ·exact hq.elim
noncomputable def K217:=Go.Sx.aA f217
def zcl:Ctr:=ctr2 true (λx y=>(canon x).length<100000/\(canon y).length<100000) (λx y d=>d=x+y) (λ_ _ d=>(magS d,[]))
def SPl(x y:Nat)(o:List Nat)(c i:Nat):KV:=[(1,magS y),(5,.osl 0 1 0 o.length),(6,.int .u32 (c:Int)),(21,magS x),(22,.i ((canon x).length:Int)),(23,.i (i:Int))]
structure IPl(x y:Nat) where
 o:List Nat
 c:Nat
 i:Nat
 len:o.length=i
 le:i<=(canon x).length
 dg:dig o
 c1:c<=1
 eq:val o+B^i*c=val ((canon x).take i)+val ((canon y).take i)
theorem zsp{x y o c i d c':Nat}{l m:List Nat}(h:o+B^i*c=val (l.take i)+val (m.take i))(he:d+B*c'=l.getD i 0+m.getD i 0+c):o+B^i*d+B^(i+1)*c'=val (l.take (i+1))+val (m.take (i+1)):=by
 rw [zt,zt,Nat.pow_succ];have:=congrArg (B^i * ·) he;simp only [bN] at this;rw [bI];omega
theorem RetR.ztw{ctr:Ctr}{Q:AV×Heap->Prop}{h:Heap}{i m n:Nat}{k:IntKind}{l:List Nat}{G:Nat->Nat->AV}(hq:Q (natS k l,[]))(hb:h[i]?=some (.arr m 1 G))(hn:n<=m)(hl:l.length=n)(hG:∀ j,j<n->G j 0 = .int k ((l.getD j 0:Nat):Int)):RetR ctr 0 Q [.osl i 1 0 n] h:=by
 refine RetR.out0 hq (λ_=> ?_) ?_
 ·refine ziy hb (by omega) λj o hj ho=> ?_
  have:o=0:=by omega
  subst this;simp only [zg,Nat.zero_add,hG j hj,qF]
 ·have e:exp2 h [] (resV [.osl i 1 0 n])=exp0 h [] (.osl i 1 0 n):=rfl;rw [e,XF hb (by omega),ztq];simp only [eqA2,natS];refine⟨hl.symm,rfl,λj o hj ho=> ?_⟩;have:o=0:=by omega
  subst this;rw [hG j hj]; rfl
theorem YK{O:Nat->Prop}{w0:World}{Q:AV×Heap->Prop}(x y:Nat)(hx:(canon x).length<100000)(hlen:(canon y).length<=(canon x).length)(hq:Q (magS (x+y),[]))(kv:KV)(h:Heap)(hle:LeK 0 f217.ntmps kv h (SPl x y [] 0 0) [.arr 0 1 (natG .u32 [])]) :
  zc prog f217 O 0 w0 [] (λ_ _ _=>False) (RetR zcl 0 Q) (.code (.loop (lps K217 0).1)::(lps K217 0).2) (mk f217.ntmps kv h):=by
 refine zc.loop (ι:=IPl x y) (λs=>SPl x y s.o s.c s.i) (λs=>[.arr s.o.length 1 (natG .u32 s.o)]) (λs=>(canon x).length - s.i) ⟨[],0,0,rfl,aI _,by simp [dig],by omega,by simp [val]⟩ 0 hle ?_ (by kernel_rfl);rintro⟨o,c,i,ho,hle,hd,hc,he⟩;subst ho;have hB:B=1000000000:=rfl;refine zc.n G1.h [1,5,6,21,22,23] (let v8:=natG .u32 o;let v7:=inR .i64 (o.length+1);let v4:=o.length+1;let v1:=Int.toNat o.length;let v6:=Int.tdiv ((↑(List.getD (canon x) v1 0):Int)+c) (1000000000:Int);let v5:=zi 1 [.int .u32 (Int.tmod ((↑(List.getD (canon x) v1 0):Int)+c) (1000000000:Int))];let v3:=Int.tdiv ((↑(List.getD (canon x) v1 0):Int)+c+(↑(List.getD (canon y) v1 0):Int)) (1000000000:Int);let v2:=zi 1 [.int .u32 (Int.tmod ((↑(List.getD (canon x) v1 0):Int)+c+(↑(List.getD (canon y) v1 0):Int)) (1000000000:Int))];.D ((o.length:Int)<((canon x).length:Int)) (.side ((0:Int)<=o.length/\(o.length:Int)<((canon x).length:Int)) (.side (inR .u32 ((↑(List.getD (canon x) v1 0):Int)+c)) (.D ((o.length:Int)<((canon y).length:Int)) (.side ((0:Int)<=o.length/\(o.length:Int)<((canon y).length:Int)) (.side (inR .u32 ((↑(List.getD (canon x) v1 0):Int)+c+(↑(List.getD (canon y) v1 0):Int))) (.side ((1000000000:Int)≠0/\inR .u32 v3) (.side ((1000000000:Int)≠0) (.side (0=0/\o.length<=o.length/\v4 *4<=140737488355328) (.side v7 (.leaf (.back 0 [(1,.sl (canon y).length 1 (natG .u32 (canon y))),(5,.osl 0 1 0 v4),(6,.int .u32 v3),(21,.sl (canon x).length 1 (natG .u32 (canon x))),(22,.i (canon x).length),(23,.i (o.length+1))] [.arr v4 1 (appG o.length v8 (zg v2 0)),.arr 1 1 v2])))))))) (.side ((1000000000:Int)≠0/\inR .u32 v6) (.side ((1000000000:Int)≠0) (.side (0=0/\o.length<=o.length/\v4 *4<=140737488355328) (.side v7 (.leaf (.back 0 [(1,.sl (canon y).length 1 (natG .u32 (canon y))),(5,.osl 0 1 0 v4),(6,.int .u32 v6),(21,.sl (canon x).length 1 (natG .u32 (canon x))),(22,.i (canon x).length),(23,.i (o.length+1))] [.arr v4 1 (appG o.length v8 (zg v5 0)),.arr 1 1 v5]))))))))) (.side (0=0/\o.length<=o.length/\v4 *4<=140737488355328) (.ex (λ(u:List Nat)=>u.length=o.length+1/\0+(o.length+1)<=o.length+1/\o.length+1<4611686018427387904/\eqG v4 1 (appG o.length v8 (zg (zi 1 [.int .u32 c]) 0)) (natG .u32 u)/\dig (List.take v4 (List.drop 0 u))) λn=>.all (λ(x:Nat)=>x=val (List.take v4 (List.drop 0 n))) λn=>.R [.osl 0 1 0 (canon n).length] [.arr v4 1 (appG o.length v8 (zg (zi 1 [.int .u32 c]) 0)),.arr 1 1 (zi 1 [.int .u32 c])]))) ?_;simp only [Tree.holds,zd,inR,lo,hi,aD,y7];have ha:=zU (zj x) o.length;have hb:=zU (zj y) o.length
 have hnext:∀ d c':Nat,d<B->c'<=1->o.length<(canon x).length->d+B*c'=(canon x).getD o.length 0+(canon y).getD o.length 0+c ->
   ∃ s:IPl x y,s.o=o++[d]/\s.c=c'/\s.i=o.length+1:=λd c' h1 h2 h3 h4=>
  ⟨⟨o++[d],c',o.length+1,by simp,h3,j7.2 ⟨hd,by simp [dig,h1]⟩,h2,by rw [WG]; exact zsp (x:=x) (y:=y) he h4⟩,rfl,rfl,rfl⟩
 have hdiv:∀ v:Nat,(v:Int).tdiv 1000000000=((v/B:Nat):Int)/\(v:Int).tmod 1000000000=((v%B:Nat):Int):=λv=>⟨rfl,rfl⟩
 have hq2:∀ v:Nat,v<2*B->v/B<=1/\v%B<B/\v%B+B*(v/B)=v:=λv hv=>⟨by have:=Nat.div_lt_of_lt_mul (show v<B*2 by omega); omega,Nat.mod_lt _ (by omega),Nat.mod_add_div _ _⟩
 refine⟨λhlt=> ?_,λhge=> ?_⟩
 ·have hlt:o.length<(canon x).length:=by have:=aB hlt; omega
  refine⟨by omega,λ_=>⟨by omega,λ_=>⟨λhb2=> ?_,λhb2=> ?_⟩⟩⟩
  ·have hb2:o.length<(canon y).length:=by have:=aB hb2; omega
   refine⟨by omega,λ_=>⟨by omega,λ_=> ?_⟩⟩;obtain⟨v,hv⟩:∃ v,(canon x).getD o.length 0+c+(canon y).getD o.length 0=v:=⟨_,rfl⟩;have ev:(((canon x).getD o.length 0:Nat):Int)+(c:Int)+(((canon y).getD o.length 0:Nat):Int)=(v:Int):=by omega
   rw [ev,(hdiv v).1,(hdiv v).2];obtain⟨g1,g2,g3⟩:=hq2 v (by omega);generalize v/B=q at g1 g3 ⊢;generalize v%B=r at g2 g3 ⊢;refine⟨⟨by decide,by omega,by omega⟩,λ_=>⟨by decide,λ_=>⟨⟨trivial,aJ _,by omega⟩,λ_=>⟨by omega,λ_=> ?_⟩⟩⟩⟩;obtain⟨s,h1,h2,h3⟩:=hnext r q g2 g1 hlt (by omega);rw [aP trivial];exact⟨s,by show _ - s.i<_; omega,by simp [SPl,h1,h2,h3,magS,natS,za],by rw [h1]; exact vX rfl,by kernel_rfl,aI _⟩
  ·have hb2:(canon y).length<=o.length:=by have:=aC hb2; omega
   have hb0:(canon y).getD o.length 0=0:=by simp [List.getD,aZ hb2]
   obtain⟨v,hv⟩:∃ v,(canon x).getD o.length 0+c=v:=⟨_,rfl⟩;have ev:(((canon x).getD o.length 0:Nat):Int)+(c:Int)=(v:Int):=by omega
   rw [ev,(hdiv v).1,(hdiv v).2];obtain⟨g1,g2,g3⟩:=hq2 v (by omega);generalize v/B=q at g1 g3 ⊢;generalize v%B=r at g2 g3 ⊢;refine⟨⟨by decide,by omega,by omega⟩,λ_=>⟨by decide,λ_=>⟨⟨trivial,aJ _,by omega⟩,λ_=>⟨by omega,λ_=> ?_⟩⟩⟩⟩;obtain⟨s,h1,h2,h3⟩:=hnext r q g2 g1 hlt (by omega);rw [aP trivial];exact⟨s,by show _ - s.i<_; omega,by simp [SPl,h1,h2,h3,magS,natS,za],by rw [h1]; exact vX rfl,by kernel_rfl,aI _⟩
 ·have hge:o.length=(canon x).length:=by have:=aC hge; omega
  have hv:val (o++[c])=x+y:=by
   rw [WG];rw [hge,bD,bF hlen,zl,zl] at he;rw [hge]; exact he
  have hdo:dig (o++[c]):=j7.2 ⟨hd,by simp [dig]; omega⟩
  have hpush:eqG (o.length+1) 1 (appG o.length (natG .u32 o) (zg (zi 1 [.int .u32 (c:Int)]) 0)) (natG .u32 (o++[c])):=by
   have:=uS (k:=.u32) (l:=o) (v:=(c:Int)) (by omega);simpa using this
  have hall:List.take (o.length+1) (List.drop 0 (o++[c]))=o++[c]:=by rw [List.drop_zero]; exact bF (by simp)
  refine⟨⟨trivial,aJ _,by omega⟩,λ_=>⟨o++[c],⟨by simp,by omega,by omega,hpush,by rw [hall]; exact hdo⟩,⟨_,rfl⟩,?_⟩⟩;intro X hX;have hX:X=x+y:=by rw [hX,hall,hv]
  subst hX;have htr:jf (o++[c])=canon (x+y):=by rw [zY hdo,hv]
  have htl:(canon (x+y)).length=tlen (o++[c]):=by rw [<- htr,jf,aH]; have:=qA (o++[c]); omega
  rw [htl];have hle2:=qA (o++[c]);have hln:(o++[c]).length=o.length+1:=by simp
  refine RetR.ztw (l:=canon (x+y)) (k:=.u32) hq rfl (by omega) htl λj hj=> ?_
  have:=hpush j 0 (by omega) (by omega);rw [this,<- htr];simp only [natG,jf];rw [zci hj]
theorem zbu:zf prog 217 zcl:=by
 refine Z0 (fn:=f217) (c:=f217.body.getD .skip) rfl rfl rfl λx y hp O w0 Q hq=> ?_
 replace hq:=hq _ rfl;obtain⟨hx,hy⟩:=hp;refine zc.n G1.h [1,5,6,21,22,23] (let v1:=lps K217 0;.D (((canon x).length:Int)<((canon y).length:Int)) (.S ((canon y).length+1) (.side ((0:Int)<=0/\(0:Int)<=((canon y).length:Int)+(1:Int)/\inR .i64 ((canon y).length+1)/\Int.toNat ((canon y).length+1)*4<=140737488355328) (.leaf (.loop v1.1 v1.2 [(1,.sl (canon x).length 1 (natG .u32 (canon x))),(5,.osl 0 1 0 0),(6,.int .u32 0),(21,.sl (canon y).length 1 (natG .u32 (canon y))),(22,.i (canon y).length),(23,.i 0)] [.arr 0 1 (yk [.int .u32 0])])))) (.S ((canon x).length+1) (.side ((0:Int)<=0/\(0:Int)<=((canon x).length:Int)+(1:Int)/\inR .i64 ((canon x).length+1)/\Int.toNat ((canon x).length+1)*4<=140737488355328) (.leaf (.loop v1.1 v1.2 [(1,.sl (canon y).length 1 (natG .u32 (canon y))),(5,.osl 0 1 0 0),(6,.int .u32 0),(21,.sl (canon x).length 1 (natG .u32 (canon x))),(22,.i (canon x).length),(23,.i 0)] [.arr 0 1 (yk [.int .u32 0])]))))) ?_;simp only [Tree.holds,zd,inR,lo,hi];refine⟨λh=> ?_,λh=> ?_⟩
 ·have h:(canon x).length<(canon y).length:=by have:=aB h; omega
  refine⟨by omega,λ_=>⟨⟨by omega,by omega,by omega,by omega⟩,λ_=> ?_⟩⟩;rw [Nat.add_comm] at hq;exact YK y x hy (by omega) hq _ _ ⟨by simp [SPl,magS,natS,za],by simp [eqG],by kernel_rfl,aI _⟩
 ·have h:(canon y).length<=(canon x).length:=by have:=aC h; omega
  refine⟨by omega,λ_=>⟨⟨by omega,by omega,by omega,by omega⟩,λ_=> ?_⟩⟩;exact YK x y hx h hq _ _ ⟨by simp [SPl,magS,natS,za],by simp [eqG],by kernel_rfl,aI _⟩
def zd4:Ctr:=ctrP false (λp:Bool×Nat=>[.bool p.1,magS p.2]) (λ_=>True) (λp r=>r=(p.1&&decide (0<p.2),p.2)) (λ_ (r:Bool×Nat)=>(numV r.1 r.2,[]))
theorem Ja{x:Nat} : decide (0<((canon x).length:Int))=decide (0<x):=by
 by_cases h:x=0
 ·subst h; simp [canon]
 ·have h1:0<x:=bX h;have h2:(canon x).length≠0:=λh2=>h (yH.1 h2)
  rw [aX (by omega),aX h1]
theorem RetR.numV{ctr:Ctr}{Q:AV×Heap->Prop}{h:Heap}{b:Bool}{x:Nat}(hf:ctr.fresh=false)(hq:Q (numV b x,[])):RetR ctr 0 Q [.agg [.bool b,magS x]] h:=by
 refine RetR.out0 hq (λh=>by rw [hf] at h; cases h) ?_;simp [resV,exp2,exp1,exp0,ren0,frz1,eqA2,eqL1,eqA,eqL0,eqA0,Tryz.numV,magS,natS,za]
theorem zmv:zf prog 248 zd4:=by
 refine zh' f248 λp hp O w0 Q hq=> ?_
 obtain⟨b,x⟩:=p;replace hq:=hq _ rfl;refine zc.n zH [] (let v1:List AV:=[.bool (bif b then decide ((0:Int)<((canon x).length:Int)) else false),.sl (canon x).length 1 (natG .u32 (canon x))];.R [.agg v1] [.box v1]) ?_;simp only [Tree.holds,zd];rw [Ja];have e:(bif b then decide (0<x) else false)=(b&&decide (0<x)):=by cases b<;>rfl
 rw [e];exact RetR.numV rfl hq
def sumC:Ctr:=ctrP false (λp:(Bool×Nat)×(Bool×Nat)=>[numV p.1.1 p.1.2,numV p.2.1 p.2.2]) (λp=>(canon p.1.2).length<100000/\(canon p.2.2).length<100000)
 (λp r=>r=((sumS p.1.1 p.1.2 p.2.1 p.2.2).1&&decide (0<(sumS p.1.1 p.1.2 p.2.1 p.2.2).2),(sumS p.1.1 p.1.2 p.2.1 p.2.2).2)) (λ_ (r:Bool×Nat)=>(numV r.1 r.2,[]))
noncomputable def GSu:=tb zmv (tb zbu (tb uf (tb JV tz)))
abbrev q39(A:List AV)(x:Bool×Nat):Prop:=eqL A [.bool x.1,.sl (canon x.2).length 1 (natG .u32 (canon x.2))]/\True
abbrev q38(A:List AV)(x:Nat×Nat):Prop:=eqL A [.sl (canon x.1).length 1 (natG .u32 (canon x.1)),.sl (canon x.2).length 1 (natG .u32 (canon x.2))]/\List.length (canon x.1)<100000/\List.length (canon x.2)<100000
theorem ztf:zf prog 247 sumC:=by
 refine zh' f247 λp hp O w0 Q hq=> ?_
 obtain⟨⟨m,x⟩,⟨n,y⟩⟩:=p;obtain⟨h1,h2⟩:=hp;replace hq:=hq _ rfl;simp only at h1 h2 hq;refine zc.n GSu.h [] (let v8:=natG .u32 (canon x);let v7:=natG .u32 (canon y);let v3:List AV:=[.bool n,.sl (canon y).length 1 v7];let v2:List AV:=[.bool m,.sl (canon x).length 1 v8];let v1:=[AV.sl (canon x).length 1 v8,AV.sl (canon y).length 1 v7];.ite (m == n) (.ex (q38 v1) λn_1=>.all (λ(d:Nat)=>d=n_1.1+n_1.2) λn_2=>.ex (q39 [.bool m,.sl (canon n_2).length 1 (natG .u32 (canon n_2))]) λn_3=>.all (λ(r:Bool×Nat)=>r=(n_3.1&&decide (0<n_3.2),n_3.2)) λn_4=>let v4:List AV:=[.bool n_4.1,.sl (canon n_4.2).length 1 (natG .u32 (canon n_4.2))];.R [.agg v4] [.box v2,.box v3,.box v4]) (.ex (q11 v1) λn_1=>.all (λ(r:Int)=>r=cmp3 n_1.1 n_1.2) λn_2=>.D ((0:Int)<=n_2) (.ex (q12 v1) λn_3=>.all (λ(d:Nat)=>d=n_3.1 - n_3.2) λn_4=>.ex (q39 [.bool m,.sl (canon n_4).length 1 (natG .u32 (canon n_4))]) λn_5=>.all (λ(r:Bool×Nat)=>r=(n_5.1&&decide (0<n_5.2),n_5.2)) λn_6=>let v5:List AV:=[.bool n_6.1,.sl (canon n_6.2).length 1 (natG .u32 (canon n_6.2))];.R [.agg v5] [.box v2,.box v3,.box v5]) (.ex (q12 [.sl (canon y).length 1 v7,.sl (canon x).length 1 v8]) λn_3=>.all (λ(d:Nat)=>d=n_3.1 - n_3.2) λn_4=>.ex (q39 [.bool n,.sl (canon n_4).length 1 (natG .u32 (canon n_4))]) λn_5=>.all (λ(r:Bool×Nat)=>r=(n_5.1&&decide (0<n_5.2),n_5.2)) λn_6=>let v6:List AV:=[.bool n_6.1,.sl (canon n_6.2).length 1 (natG .u32 (canon n_6.2))];.R [.agg v6] [.box v2,.box v3,.box v6]))) ?_;simp only [q11,q12,q38,q39,Tree.holds,zd];have eL:∀ a b:Nat,eqL [.sl (canon a).length 1 (natG .u32 (canon a)),.sl (canon b).length 1 (natG .u32 (canon b))] [.sl (canon a).length 1 (natG .u32 (canon a)),.sl (canon b).length 1 (natG .u32 (canon b))]:=λa b=>⟨⟨rfl,rfl,za _ _ _⟩,⟨rfl,rfl,za _ _ _⟩,trivial⟩
 have eK:∀ (b:Bool) (a:Nat),eqL [.bool b,.sl (canon a).length 1 (natG .u32 (canon a))] [.bool b,.sl (canon a).length 1 (natG .u32 (canon a))]:=λb a=>⟨rfl,⟨rfl,rfl,za _ _ _⟩,trivial⟩
 have hcm:∀ v,v=cmp3 x y->(0<=v↔y<=x):=by
  rintro v rfl;unfold cmp3;split
  ·exact⟨λh=>by omega,λh=>by omega⟩
  ·split
   ·exact⟨λh=>by omega,λh=>by omega⟩
   ·exact⟨λh=>by omega,λh=>by omega⟩
 refine⟨λh=> ?_,λh=>⟨(x,y),⟨eL x y,by show(canon x).length<_; omega,by show(canon y).length<_; omega⟩,⟨_,rfl⟩,?_⟩⟩
 ·have h:m=n:=by simpa using h
  refine⟨(x,y),⟨eL x y,h1,h2⟩,⟨_,rfl⟩,?_⟩;rintro _ rfl;refine⟨(m,x+y),⟨eK m _,trivial⟩,⟨_,rfl⟩,?_⟩;rintro _ rfl;have e:sumS m x n y=(m,x+y):=aP h;rw [e] at hq;exact RetR.numV rfl hq
 ·have h:¬ m=n:=by simpa using h
  intro v hv;have hv:=hcm v hv;refine⟨λg=> ?_,λg=> ?_⟩
  ·have g:y<=x:=hv.1 (aB g);refine⟨(x,y),⟨eL x y,by show(canon x).length<_; omega,g⟩,⟨_,rfl⟩,?_⟩;rintro _ rfl;refine⟨(m,x - y),⟨eK m _,trivial⟩,⟨_,rfl⟩,?_⟩;rintro _ rfl;have e:sumS m x n y=(m,x - y):=by rw [sumS,aO h,aP g]
   rw [e] at hq;exact RetR.numV rfl hq
  ·have g:¬ y<=x:=λh3=>aC g (hv.2 h3)
   refine⟨(y,x),⟨eL y x,by show(canon y).length<_; omega,by show x<=y; omega⟩,⟨_,rfl⟩,?_⟩;rintro _ rfl;refine⟨(n,y - x),⟨eK n _,trivial⟩,⟨_,rfl⟩,?_⟩;rintro _ rfl;have e:sumS m x n y=(n,y - x):=by rw [sumS,aO h,aO g]
   rw [e] at hq;exact RetR.numV rfl hq
theorem qg{x n:Nat}(h:x<B^n)(hn:n<100000):(canon x).length<100000:=by have:=zC h; omega
theorem jd{s:L8}(h:errI s=0):numI s<B^112:=wa.2 (uz h)
theorem zbd{x y:Nat}(hx:x<B^112)(hy:y<B^112):x+y<B^113/\x*y<B^224:=by
 constructor
 ·have:B^113=B^112*B:=Nat.pow_succ B 112;have hB:B=1000000000:=rfl;generalize B^112=p at *
  rw [this,hB]; omega
 ·have:B^224=B^112*B^112:=by rw [<- Nat.pow_add]
  rw [this];exact Nat.mul_lt_mul_of_lt_of_lt hx hy
noncomputable def GAd:=tb KB (tb ztf (tb Ww (tb XM (tb uf tz))))
def addC:Ctr:=ctrP true (λp:L8×L8=>[.str p.1,.str p.2]) (λp=>p.1.length<2^62/\p.2.length<2^62) (λp r=>r=addI p.1 p.2) (λ_ r=>(.tup [.str r.1,.i r.2],[]))
def subC:Ctr:=ctrP true (λp:L8×L8=>[.str p.1,.str p.2]) (λp=>p.1.length<2^62/\p.2.length<2^62) (λp r=>r=subI p.1 p.2) (λ_ r=>(.tup [.str r.1,.i r.2],[]))
def mulC:Ctr:=ctrP true (λp:L8×L8=>[.str p.1,.str p.2]) (λp=>p.1.length<2^62/\p.2.length<2^62) (λp r=>r=mulI p.1 p.2) (λ_ r=>(.tup [.str r.1,.i r.2],[]))
def zp6:Ctr:=ctrP true (λp:L8×L8=>[.str p.1,.str p.2]) (λp=>p.1.length<2^62/\p.2.length<2^62) (λp r=>r=VR p.1 p.2) (λ_ r=>(.tup [.i r.1,.i r.2],[]))
abbrev q40(A:List AV)(x:(Bool×Nat)×Bool×Nat):Prop:=eqL A [.agg [.bool x.1.1,.sl (canon x.1.2).length 1 (natG .u32 (canon x.1.2))],.agg [.bool x.2.1,.sl (canon x.2.2).length 1 (natG .u32 (canon x.2.2))]]/\List.length (canon x.1.2)<100000/\List.length (canon x.2.2)<100000
theorem zsl:zf prog 245 addC:=by
 refine zh' f245 λp hp O w0 Q hq=> ?_
 obtain⟨s,t⟩:=p;obtain⟨hs,ht⟩:=hp;replace hq:=hq _ rfl;simp only at hs ht hq;refine zc.n GAd.h [] (.ex (q17 [.str s,.str t]) λn=>.all (λ(r:Int×(Bool×Nat)×Bool×Nat)=>r=if z8 n.1 n.2=0 then((0:Int),(negI n.1,numI n.1),negI n.2,numI n.2) else(z8 n.1 n.2,(false,0),false,0)) λn=>let v4:=canon n.2.2.2;let v3:=canon n.2.1.2;let v1:List Blk:=[.box [.bool n.2.1.1,.sl v3.length 1 (natG .u32 v3)],.box [.bool n.2.2.1,.sl v4.length 1 (natG .u32 v4)]];.N (n.1=0) (.R [.str #[].toList,.i n.1] v1) (.ex (q40 [.agg [.bool n.2.1.1,.sl v3.length 1 (natG .u32 v3)],.agg [.bool n.2.2.1,.sl v4.length 1 (natG .u32 v4)]]) λn_1=>let v2:=sumS n_1.1.1 n_1.1.2 n_1.2.1 n_1.2.2;.all (λ(r:Bool×Nat)=>r=(Prod.fst v2 &&decide (0<Prod.snd v2),Prod.snd v2)) λn_2=>.ex (q19 [.agg [.bool n_2.1,.sl (canon n_2.2).length 1 (natG .u32 (canon n_2.2))]]) λn_3=>.all (λ(r:L8×Int)=>r=wr n_3.1 n_3.2) λn_4=>.R [.str n_4.1,.i n_4.2] v1)) ?_;simp only [q17,q19,q40,Tree.holds,zd];refine⟨(s,t),⟨by simp,by omega,by omega⟩,⟨_,rfl⟩,?_⟩;rintro _ rfl;simp only;by_cases he:z8 s t=0
 ·obtain⟨e1,e2⟩:=zq.1 he;obtain⟨b1,b2⟩:=zbd (jd e1) (jd e2);have c1:=qg (jd e1) (by decide);have c2:=qg (jd e2) (by decide);simp only [aP he];refine⟨λh=>(by simp at h),λ_=> ?_⟩;refine⟨((negI s,numI s),(negI t,numI t)),⟨⟨⟨rfl,⟨rfl,rfl,za _ _ _⟩,trivial⟩,⟨rfl,⟨rfl,rfl,za _ _ _⟩,trivial⟩,trivial⟩,c1,c2⟩,⟨_,rfl⟩,?_⟩;rintro _ rfl;refine⟨((sumS (negI s) (numI s) (negI t) (numI t)).1&&decide (0<(sumS (negI s) (numI s) (negI t) (numI t)).2),(sumS (negI s) (numI s) (negI t) (numI t)).2),⟨⟨⟨rfl,⟨rfl,rfl,za _ _ _⟩,trivial⟩,trivial⟩,?_⟩,⟨_,rfl⟩,?_⟩
  ·have:=qg (Nat.lt_of_le_of_lt (zbl (negI s) (numI s) (negI t) (numI t)) b1) (by decide);show(canon (sumS (negI s) (numI s) (negI t) (numI t)).2).length<1000000;omega
  rintro _ rfl;rw [zbs];have e:addI s t=wr (sumS (negI s) (numI s) (negI t) (numI t)).1 (sumS (negI s) (numI s) (negI t) (numI t)).2:=aP he;rw [e] at hq;exact RetR.scal hq rfl (by simp [resV])
 ·simp only [aO he];refine⟨λ_=> ?_,λh=>(by simp [he] at h)⟩;have e:addI s t=([],z8 s t):=aO he;rw [e] at hq;exact RetR.scal hq rfl (by simp [resV])
theorem zrp:zf prog 246 subC:=by
 refine zh' f246 λp hp O w0 Q hq=> ?_
 obtain⟨s,t⟩:=p;obtain⟨hs,ht⟩:=hp;replace hq:=hq _ rfl;simp only at hs ht hq;refine zc.n GAd.h [] (.ex (q17 [.str s,.str t]) λn=>.all (λ(r:Int×(Bool×Nat)×Bool×Nat)=>r=if z8 n.1 n.2=0 then((0:Int),(negI n.1,numI n.1),negI n.2,numI n.2) else(z8 n.1 n.2,(false,0),false,0)) λn=>let v5:=canon n.2.1.2;let v4:=canon n.2.2.2;let v3:List AV:=[.bool n.2.1.1,.sl v5.length 1 (natG .u32 v5)];let v1:=bif !Prod.fst n.2.2 then decide ((0:Int)<((canon n.2.2.2).length:Int)) else false;.N (n.1=0) (.R [.str #[].toList,.i n.1] [.box v3,.box [.bool n.2.2.1,.sl v4.length 1 (natG .u32 v4)]]) (.ex (q40 [.agg [.bool n.2.1.1,.sl v5.length 1 (natG .u32 v5)],.agg [.bool v1,.sl v4.length 1 (natG .u32 v4)]]) λn_1=>let v2:=sumS n_1.1.1 n_1.1.2 n_1.2.1 n_1.2.2;.all (λ(r:Bool×Nat)=>r=(Prod.fst v2 &&decide (0<Prod.snd v2),Prod.snd v2)) λn_2=>.ex (q19 [.agg [.bool n_2.1,.sl (canon n_2.2).length 1 (natG .u32 (canon n_2.2))]]) λn_3=>.all (λ(r:L8×Int)=>r=wr n_3.1 n_3.2) λn_4=>.R [.str n_4.1,.i n_4.2] [.box v3,.box [.bool v1,.sl v4.length 1 (natG .u32 v4)]])) ?_;simp only [q17,q19,q40,Tree.holds,zd];refine⟨(s,t),⟨by simp,by omega,by omega⟩,⟨_,rfl⟩,?_⟩;rintro _ rfl;simp only;by_cases he:z8 s t=0
 ·obtain⟨e1,e2⟩:=zq.1 he;obtain⟨b1,b2⟩:=zbd (jd e1) (jd e2);have c1:=qg (jd e1) (by decide);have c2:=qg (jd e2) (by decide);simp only [aP he];refine⟨λh=>(by simp at h),λ_=> ?_⟩;have eN:(bif !negI t then decide (0<((canon (numI t)).length:Int)) else false)=(!negI t&&decide (0<numI t)):=by rw [Ja]; cases negI t<;>rfl
  rw [eN];refine⟨((negI s,numI s),(!negI t&&decide (0<numI t),numI t)),⟨⟨⟨rfl,⟨rfl,rfl,za _ _ _⟩,trivial⟩,⟨rfl,⟨rfl,rfl,za _ _ _⟩,trivial⟩,trivial⟩,c1,c2⟩,⟨_,rfl⟩,?_⟩;rintro _ rfl;simp only [zee];refine⟨((sumS (negI s) (numI s) (!negI t) (numI t)).1&&decide (0<(sumS (negI s) (numI s) (!negI t) (numI t)).2),(sumS (negI s) (numI s) (!negI t) (numI t)).2),⟨⟨⟨rfl,⟨rfl,rfl,za _ _ _⟩,trivial⟩,trivial⟩,?_⟩,⟨_,rfl⟩,?_⟩
  ·have:=qg (Nat.lt_of_le_of_lt (zbl (negI s) (numI s) (!negI t) (numI t)) b1) (by decide);show(canon (sumS (negI s) (numI s) (!negI t) (numI t)).2).length<1000000;omega
  rintro _ rfl;rw [zbs];have e:subI s t=wr (sumS (negI s) (numI s) (!negI t) (numI t)).1 (sumS (negI s) (numI s) (!negI t) (numI t)).2:=aP he;rw [e] at hq;exact RetR.scal hq rfl (by simp [resV])
 ·simp only [aO he];refine⟨λ_=> ?_,λh=>(by simp [he] at h)⟩;have e:subI s t=([],z8 s t):=aO he;rw [e] at hq;exact RetR.scal hq rfl (by simp [resV])
theorem zry:zf prog 156 mulC:=by
 refine zh' f156 λp hp O w0 Q hq=> ?_
 obtain⟨s,t⟩:=p;obtain⟨hs,ht⟩:=hp;replace hq:=hq _ rfl;simp only at hs ht hq;refine zc.n GAd.h [] (.ex (q17 [.str s,.str t]) λn=>.all (λ(r:Int×(Bool×Nat)×Bool×Nat)=>r=if z8 n.1 n.2=0 then((0:Int),(negI n.1,numI n.1),negI n.2,numI n.2) else(z8 n.1 n.2,(false,0),false,0)) λn=>let v5:=canon n.2.1.2;let v4:=canon n.2.2.2;let v3:List AV:=[.bool n.2.2.1,.sl v4.length 1 (natG .u32 v4)];let v2:List AV:=[.bool n.2.1.1,.sl v5.length 1 (natG .u32 v5)];.N (n.1=0) (.R [.str #[].toList,.i n.1] [.box v2,.box v3]) (.ex (q11 [.sl v5.length 1 (natG .u32 v5),.sl v4.length 1 (natG .u32 v4)]) λn_1=>let v1:=List.length (canon n_1.1)+List.length (canon n_1.2);.all (λ(p:Nat)=>p=n_1.1*n_1.2) λn_2=>.ex (q19 [.agg [.bool !Prod.fst n.2.1 == n.2.2.1,.sl (canon n_2).length 1 (zg (natG .u32 (padN v1 n_2)) 0)]]) λn_3=>.all (λ(r:L8×Int)=>r=wr n_3.1 n_3.2) λn_4=>.R [.str n_4.1,.i n_4.2] [.box v2,.box v3,.arr v1 1 (natG .u32 (padN v1 n_2))])) ?_;simp only [q11,q17,q19,Tree.holds,zd];refine⟨(s,t),⟨by simp,by omega,by omega⟩,⟨_,rfl⟩,?_⟩;rintro _ rfl;simp only;by_cases he:z8 s t=0
 ·obtain⟨e1,e2⟩:=zq.1 he;obtain⟨b1,b2⟩:=zbd (jd e1) (jd e2);have c1:=qg (jd e1) (by decide);have c2:=qg (jd e2) (by decide);simp only [aP he];refine⟨λh=>(by simp at h),λ_=> ?_⟩;refine⟨(numI s,numI t),⟨⟨⟨rfl,rfl,za _ _ _⟩,⟨rfl,rfl,za _ _ _⟩,trivial⟩,by show(canon (numI s)).length<1000000; omega,by show(canon (numI t)).length<1000000; omega⟩,⟨_,rfl⟩,?_⟩;rintro _ rfl;refine⟨(negI s != negI t,numI s*numI t),⟨⟨⟨rfl,⟨rfl,rfl,λj o hj ho=>by simp only [zg,natG,Nat.zero_add,padN,uA hj]⟩,trivial⟩,trivial⟩,?_⟩,⟨_,rfl⟩,?_⟩
  ·have:=qg b2 (by decide);show(canon (numI s*numI t)).length<1000000;omega
  rintro _ rfl;have e:mulI s t=wr (negI s != negI t) (numI s*numI t):=aP he;rw [e] at hq;exact RetR.scal hq rfl (by simp [resV])
 ·simp only [aO he];refine⟨λ_=> ?_,λh=>(by simp [he] at h)⟩;have e:mulI s t=([],z8 s t):=aO he;rw [e] at hq;exact RetR.scal hq rfl (by simp [resV])
theorem zop:zf prog 215 zp6:=by
 refine zh' f215 λp hp O w0 Q hq=> ?_
 obtain⟨s,t⟩:=p;obtain⟨hs,ht⟩:=hp;replace hq:=hq _ rfl;simp only at hs ht hq;refine zc.n GAd.h [] (.ex (q17 [.str s,.str t]) λn=>.all (λ(r:Int×(Bool×Nat)×Bool×Nat)=>r=if z8 n.1 n.2=0 then((0:Int),(negI n.1,numI n.1),negI n.2,numI n.2) else(z8 n.1 n.2,(false,0),false,0)) λn=>let v3:=canon n.2.2.2;let v2:=canon n.2.1.2;let v1:List Blk:=[.box [.bool n.2.1.1,.sl v2.length 1 (natG .u32 v2)],.box [.bool n.2.2.1,.sl v3.length 1 (natG .u32 v3)]];.N (n.1=0) (.R [.i 0,.i n.1] v1) (.ite (bif n.2.1.1 then !Prod.fst n.2.2 else false) (.R [.i (-1:Int),.i 0] v1) (.ite (bif n.2.2.1 then !Prod.fst n.2.1 else false) (.R [.i 1,.i 0] v1) (.ite n.2.1.1 (.ex (q11 [.sl v3.length 1 (natG .u32 v3),.sl v2.length 1 (natG .u32 v2)]) λn_1=>.all (λ(r:Int)=>r=cmp3 n_1.1 n_1.2) λn_2=>.R [.i n_2,.i 0] v1) (.ex (q11 [.sl v2.length 1 (natG .u32 v2),.sl v3.length 1 (natG .u32 v3)]) λn_1=>.all (λ(r:Int)=>r=cmp3 n_1.1 n_1.2) λn_2=>.R [.i n_2,.i 0] v1))))) ?_;simp only [q11,q17,Tree.holds,zd];refine⟨(s,t),⟨by simp,by omega,by omega⟩,⟨_,rfl⟩,?_⟩;rintro _ rfl;simp only;by_cases he:z8 s t=0
 ·obtain⟨e1,e2⟩:=zq.1 he;obtain⟨b1,b2⟩:=zbd (jd e1) (jd e2);have c1:=qg (jd e1) (by decide);have c2:=qg (jd e2) (by decide);simp only [aP he];refine⟨λh=>(by simp at h),λ_=> ?_⟩;have e:VR s t=(cmpZ (negI s) (numI s) (negI t) (numI t),0):=aP he;rw [e] at hq;have ec:∀ a b:Nat,cmp3 a b=cmpN a b:=λ_ _=>rfl
  simp only [cmpZ] at hq;have f1:fits (numI s):=by show(canon (numI s)).length<1000000; omega
  have f2:fits (numI t):=by show(canon (numI t)).length<1000000; omega
  refine⟨λh=> ?_,λh1=>⟨λh=> ?_,λh2=>⟨λh=>⟨(numI t,numI s),⟨⟨⟨rfl,rfl,za _ _ _⟩,⟨rfl,rfl,za _ _ _⟩,trivial⟩,f2,f1⟩,⟨_,rfl⟩,?_⟩,λh=>⟨(numI s,numI t),⟨⟨⟨rfl,rfl,za _ _ _⟩,⟨rfl,rfl,za _ _ _⟩,trivial⟩,f1,f2⟩,⟨_,rfl⟩,?_⟩⟩⟩⟩
  ·cases hm:negI s<;>cases hn:negI t<;>rw [hm,hn] at h hq<;>first | (cases h; done) | exact RetR.scal hq rfl (by simp [resV])
  ·cases hm:negI s<;>cases hn:negI t<;>rw [hm,hn] at h h1 hq<;>first | (cases h; done) | (cases h1; done) | exact RetR.scal hq rfl (by simp [resV])
  ·rintro _ rfl;rw [ec];cases hm:negI s<;>cases hn:negI t<;>rw [hm,hn] at h1 h2 hq<;>rw [hm] at h<;>first | (cases h; done) | (cases h1; done) | (cases h2; done) | exact RetR.scal hq rfl (by simp [resV])
  ·rintro _ rfl;rw [ec];cases hm:negI s<;>cases hn:negI t<;>rw [hm,hn] at h1 h2 hq<;>rw [hm] at h<;>first | (cases h; done) | (cases h1; done) | (cases h2; done) | exact RetR.scal hq rfl (by simp [resV])
 ·simp only [aO he];refine⟨λ_=> ?_,λh=>(by simp [he] at h)⟩;have e:VR s t=(0,z8 s t):=aO he;rw [e] at hq;exact RetR.scal hq rfl (by simp [resV])
def dmC:Ctr:=ctrP true (λp:L8×L8=>[.str p.1,.str p.2]) (λp=>p.1.length<2^62/\p.2.length<2^62) (λp r=>r=dmI p.1 p.2) (λ_ r=>(.tup [.str r.1,.str r.2.1,.i r.2.2],[]))
noncomputable def GDm:=tb KB (tb V5 (tb zbu (tb JV (tb Ww tz))))
theorem zf6:zf prog 205 dmC:=by
 refine zh' f205 λp hp O w0 Q hq=> ?_
 obtain⟨s,t⟩:=p;obtain⟨hs,ht⟩:=hp;replace hq:=hq _ rfl;simp only at hs ht hq;refine zc.n GDm.h [] (.ex (q17 [.str s,.str t]) λn=>.all (λ(r:Int×(Bool×Nat)×Bool×Nat)=>r=if z8 n.1 n.2=0 then((0:Int),(negI n.1,numI n.1),negI n.2,numI n.2) else(z8 n.1 n.2,(false,0),false,0)) λn=>let v5:=canon n.2.1.2;let v4:List AV:=[.bool n.2.1.1,.sl v5.length 1 (natG .u32 v5)];let v3:=canon n.2.2.2;let v6:List AV:=[.bool n.2.2.1,.sl v3.length 1 (natG .u32 v3)];let v2:List Blk:=[.box v4,.box v6,.arr 1 1 (zi 1 [.int .u32 1])];let v1:List Blk:=[.box v4,.box v6];.N (n.1=0) (.R [.str #[].toList,.str #[].toList,.i n.1] v1) (.D (((canon n.2.2.2).length:Int)=0) (.R [.str #[].toList,.str #[].toList,.i 16] v1) (.ex (q18 [.sl v5.length 1 (natG .u32 v5),.sl v3.length 1 (natG .u32 v3)]) λn_1=>.all (λ(r:Nat×Nat)=>r=(n_1.1/n_1.2,n_1.1%n_1.2)) λn_2=>let v8:=canon n_2.2;let v7:=canon n_2.1;.ite (bif n.2.1.1 then decide ((0:Int)<((canon n_2.2).length:Int)) else false) (.ex (q38 [.sl v7.length 1 (natG .u32 v7),.sl 1 1 (zg (zi 1 [.int .u32 1]) 0)]) λn_3=>.all (λ(d:Nat)=>d=n_3.1+n_3.2) λn_4=>.ex (q12 [.sl v3.length 1 (natG .u32 v3),.sl v8.length 1 (natG .u32 v8)]) λn_5=>.all (λ(d:Nat)=>d=n_5.1 - n_5.2) λn_6=>.ex (q19 [.agg [.bool !Prod.fst n.2.1 == n.2.2.1,.sl (canon n_4).length 1 (natG .u32 (canon n_4))]]) λn_7=>.all (λ(r:L8×Int)=>r=wr n_7.1 n_7.2) λn_8=>.N (n_8.2=0) (.R [.str #[].toList,.str #[].toList,.i n_8.2] v2) (.ex (q19 [.agg [.bool false,.sl (canon n_6).length 1 (natG .u32 (canon n_6))]]) λn_9=>.all (λ(r:L8×Int)=>r=wr n_9.1 n_9.2) λn_10=>.R [.str n_8.1,.str n_10.1,.i 0] v2)) (.ex (q19 [.agg [.bool !Prod.fst n.2.1 == n.2.2.1,.sl v7.length 1 (natG .u32 v7)]]) λn_3=>.all (λ(r:L8×Int)=>r=wr n_3.1 n_3.2) λn_4=>.N (n_4.2=0) (.R [.str #[].toList,.str #[].toList,.i n_4.2] v1) (.ex (q19 [.agg [.bool false,.sl v8.length 1 (natG .u32 v8)]]) λn_5=>.all (λ(r:L8×Int)=>r=wr n_5.1 n_5.2) λn_6=>.R [.str n_4.1,.str n_6.1,.i 0] v1))))) ?_;simp only [q12,q17,q18,q19,q38,Tree.holds,zd];refine⟨(s,t),⟨by simp,by omega,by omega⟩,⟨_,rfl⟩,?_⟩;rintro _ rfl;simp only;by_cases he:z8 s t=0
 ·obtain⟨e1,e2⟩:=zq.1 he;have c1:=qg (jd e1) (by decide);have c2:=qg (jd e2) (by decide);simp only [aP he];refine⟨λh=>(by simp at h),λ_=> ?_⟩;refine⟨λh0=> ?_,λh0=> ?_⟩
  ·have h0:numI t=0:=yH.1 (by have:=aB h0; omega);have e:dmI s t=([],[],16):=by rw [dmI,aO (by rw [he]; decide),aP h0]
   rw [e] at hq;exact RetR.scal hq rfl (by simp [resV])
  have h0:numI t≠0:=λh=>aC h0 (by rw [yH.2 h]; rfl)
  have e:dmI s t=((wr (negI s != negI t) (dmQ s t)).1,(wr false (dmM s t)).1,0):=by rw [dmI,aO (by rw [he]; decide),aO h0]
  rw [e] at hq;have rq:=zis e1 h0;have rm:=zku (s:=s) e2 h0;have eL:∀ a b:Nat,eqL [.sl (canon a).length 1 (natG .u32 (canon a)),.sl (canon b).length 1 (natG .u32 (canon b))] [.sl (canon a).length 1 (natG .u32 (canon a)),.sl (canon b).length 1 (natG .u32 (canon b))]:=λa b=>⟨⟨rfl,rfl,za _ _ _⟩,⟨rfl,rfl,za _ _ _⟩,trivial⟩
  have eV:∀ (b:Bool) (a:Nat),eqL [.agg [.bool b,.sl (canon a).length 1 (natG .u32 (canon a))]] [.agg [.bool b,.sl (canon a).length 1 (natG .u32 (canon a))]]:=λb a=>⟨⟨rfl,⟨rfl,rfl,za _ _ _⟩,trivial⟩,trivial⟩
  have big:∀ {a:Nat},room a->(canon a).length<1000000:=λ{a} h=>by
   obtain⟨h3,h4,_⟩:=Qt (kJ (neg:=false) h);have:=qg (jd h3) (by decide);rw [h4] at this; omega
  refine⟨(numI s,numI t),⟨eL _ _,c1,c2,bX h0⟩,⟨_,rfl⟩,?_⟩;rintro _ rfl;simp only;rw [Ja];have hmod:=Nat.mod_lt (numI s) (bX h0);refine⟨λhc=> ?_,λhc=> ?_⟩
  ·have hc:negI s=true/\0<numI s%numI t:=by
    cases hn:negI s with
    | false=>rw [hn] at hc; cases hc
    | true=>rw [hn] at hc; exact⟨rfl,aB hc⟩
   have eQ:dmQ s t=numI s/numI t+1:=aP hc;have eM:dmM s t=numI t - numI s%numI t:=aP hc;rw [eQ,eM] at hq;rw [eQ] at rq;rw [eM] at rm
   have hone:canon 1=[1]:=by
    rw [jo (by decide)];exact congrArg (1 :: ·) zS
   have rdiv:=room_le (Nat.div_le_self (numI s) (numI t)) (jS e1)
   have hdl:(canon (numI s/numI t)).length<100000:=by
    have:=qg (Nat.lt_of_le_of_lt (Nat.div_le_self (numI s) (numI t)) (jd e1)) (by decide);exact this
   refine⟨(numI s/numI t,1),⟨⟨⟨rfl,rfl,za _ _ _⟩,⟨by rw [hone]; rfl,rfl,?_⟩,trivial⟩,hdl,by show(canon 1).length<100000; rw [hone]; decide⟩,⟨_,rfl⟩,?_⟩
   ·intro j o hj ho;have:j=0:=by omega
    subst this;have:o=0:=by omega
    subst this;show AV.int .u32 1 = .int .u32 (((canon 1).getD 0 0:Nat):Int);rw [hone]; rfl
   rintro _ rfl;refine⟨(numI t,numI s%numI t),⟨eL _ _,by show(canon (numI t)).length<1000000; omega,by show numI s%numI t<=numI t; omega⟩,⟨_,rfl⟩,?_⟩;rintro _ rfl;refine⟨(negI s != negI t,numI s/numI t+1),⟨eV _ _,big rq⟩,⟨_,rfl⟩,?_⟩;rintro _ rfl;have hz:=kJ (neg:=(negI s != negI t)) rq;refine⟨λh=>by simp [hz] at h,λ_=>⟨(false,numI t - numI s%numI t),⟨eV _ _,big rm⟩,⟨_,rfl⟩,?_⟩⟩;rintro _ rfl;exact RetR.scal hq rfl (by simp [resV])
  ·have hc:¬ (negI s=true/\0<numI s%numI t):=by
    rintro⟨g1,g2⟩;rw [g1,aX g2] at hc;cases hc
   have eQ:dmQ s t=numI s/numI t:=aO hc;have eM:dmM s t=numI s%numI t:=aO hc;rw [eQ,eM] at hq;rw [eQ] at rq;rw [eM] at rm;refine⟨(negI s != negI t,numI s/numI t),⟨eV _ _,big rq⟩,⟨_,rfl⟩,?_⟩;rintro _ rfl;have hz:=kJ (neg:=(negI s != negI t)) rq;refine⟨λh=>by simp [hz] at h,λ_=>⟨(false,numI s%numI t),⟨eV _ _,big rm⟩,⟨_,rfl⟩,?_⟩⟩;rintro _ rfl;exact RetR.scal hq rfl (by simp [resV])
 ·simp only [aO he];refine⟨λ_=> ?_,λh=>(by simp [he] at h)⟩;have e:dmI s t=([],[],z8 s t):=aP he;rw [e] at hq;exact RetR.scal hq rfl (by simp [resV])
def Uy:Ctr:=ctrP true (λs:L8=>[.str s]) (λs=>s.length<2^62) (λs r=>r=if errR s=0 then(numR s,denR s,0) else([],[],errR s)) (λ_ (r:L8×L8×Int)=>(.tup [.str r.1,.str r.2.1,.i r.2.2],[]))
noncomputable def GPa:=tb ZW (tb XL tz)
theorem zju:zf prog 187 Uy:=by
 refine zh' f187 λs hs O w0 Q hq=> ?_
 replace hq:=hq _ rfl;refine zc.n GPa.h [] (.ex (q15 [.str s]) λn=>.all (λ(r:Int)=>r=errR n) λn=>.N (n=0) (.R [.str #[].toList,.str #[].toList,.i n] []) (.ex (q15 [.str s]) λn=>.all (λ(r:L8×L8×Bool)=>r=cutR n) λn=>.ite (!Prod.snd n.2) (.R [.str n.1,.str #[(49:UInt8)].toList,.i 0] []) (.R [.str n.1,.str n.2.1,.i 0] []))) ?_;simp only [q15,Tree.holds,zd];refine⟨s,⟨by simp,hs⟩,⟨_,rfl⟩,?_⟩;rintro _ rfl;refine⟨λh=> ?_,λh=>⟨s,⟨by simp,hs⟩,⟨_,rfl⟩,?_⟩⟩
 ·have h:errR s≠0:=by simpa using h
  rw [aO h] at hq;exact RetR.scal hq rfl (by simp [resV])
 ·have h:errR s=0:=by simpa using h
  rw [aP h] at hq;rintro _ rfl;refine⟨λg=> ?_,λg=> ?_⟩
  ·have e:denR s=[49]:=by unfold denR; rw [aO (by simpa using g)]
   rw [e] at hq;exact RetR.scal hq rfl (by simp [resV,numR])
  ·have e:denR s=(cutR s).2.1:=by unfold denR; rw [aP (by simpa using g)]
   rw [e] at hq;exact RetR.scal hq rfl (by simp [resV,numR])
def zcm:Ctr:=ctrP true (λp:L8×L8=>[.str p.1,.str p.2]) (λp=>p.1.length<2^62/\p.2.length<2^62) (λp r=>r=wI p.1 p.2) (λ_ r=>(.tup [.str r.1,.i r.2],[]))
noncomputable def GMk:=tb zj6 (tb zf6 tz)
theorem zmb:zf prog 189 zcm:=by
 refine zh' f189 λp hp O w0 Q hq=> ?_
 obtain⟨s,t⟩:=p;obtain⟨hs,ht⟩:=hp;replace hq:=hq _ rfl;simp only at hs ht hq;refine zc.n GMk.h [] (.ex (q17 [.str s,.str t]) λn=>.all (λ(r:L8×Int)=>r=gcdR n.1 n.2) λn=>.N (n.2=0) (.R [.str #[].toList,.i n.2] []) (.D (t=#[(48:UInt8)].toList) (.R [.str #[].toList,.i 16] []) (.side ((0:Int)<=0/\(0:Int)<t.length) (.D ((↑(UInt8.toNat (t.getD 0 (0:UInt8))):Int)=45) (.side (1+n.1.length<=9223372036854775807) (.ex (q17 [.str s,.str (#[(45:UInt8)].toList++n.1)]) λn_1=>.all (λ(r:L8×L8×Int)=>r=dmI n_1.1 n_1.2) λn_2=>.ex (q17 [.str t,.str (#[(45:UInt8)].toList++n.1)]) λn=>.all (λ(r:L8×L8×Int)=>r=dmI n.1 n.2) λn=>.D (n.1=#[(49:UInt8)].toList) (.R [.str n_2.1,.i 0] []) (.side (n_2.1.length+1<=9223372036854775807) (.side (List.length (n_2.1++#[(47:UInt8)].toList)+n.1.length<=9223372036854775807) (.R [.str (n_2.1++#[(47:UInt8)].toList++n.1),.i 0] []))))) (.ex (q17 [.str s,.str n.1]) λn_1=>.all (λ(r:L8×L8×Int)=>r=dmI n_1.1 n_1.2) λn_2=>.ex (q17 [.str t,.str n.1]) λn=>.all (λ(r:L8×L8×Int)=>r=dmI n.1 n.2) λn=>.D (n.1=#[(49:UInt8)].toList) (.R [.str n_2.1,.i 0] []) (.side (n_2.1.length+1<=9223372036854775807) (.side (List.length (n_2.1++#[(47:UInt8)].toList)+n.1.length<=9223372036854775807) (.R [.str (n_2.1++#[(47:UInt8)].toList++n.1),.i 0] [])))))))) ?_;simp only [q17,Tree.holds,zd,inR,lo,hi,aD];refine⟨(s,t),⟨by simp,by omega,by omega⟩,⟨_,rfl⟩,?_⟩;rintro _ rfl;by_cases he:z8 s t=0
 ·obtain⟨e1,e2⟩:=zq.1 he;have eg:gcdR s t=wr false (Nat.gcd (numI s) (numI t)):=aP he;by_cases h0:numI t=0
  ·have ht0:t=[48]:=(uU e2).2 h0;have hg0:Nat.gcd (numI s) (numI t)=numI s:=by rw [h0,Nat.gcd_zero_right]
   have hz:(gcdR s t).2=0:=by rw [eg,hg0]; exact kJ (jS e1)
   have e:wI s t=([],16):=by rw [wI,aO (by rw [he]; decide),aP h0]
   rw [e] at hq;refine⟨λh=>(by simp [hz] at h),λ_=>⟨λ_=>RetR.scal hq rfl (by simp [resV]),λh=>(by simp [ht0] at h)⟩⟩
  ·obtain⟨g0,gr⟩:=YH (s:=s) e2 h0;have hz:(gcdR s t).2=0:=by rw [eg]; exact kJ gr
   have ht0:t≠[48]:=λh=>h0 ((uU e2).1 h)
   have htn:t≠[]:=by rintro rfl; simp [YY] at e2
   have hneg:=Vq htn;have e:wI s t=(zcg (negI s != negI t) (numI s) (numI t),0):=by rw [wI,aO (by rw [he]; decide),aO h0]
   rw [e,zcg] at hq;have ds:Nat.gcd (numI s) (numI t) ∣ numI s:=Nat.gcd_dvd_left _ _;have dt:Nat.gcd (numI s) (numI t) ∣ numI t:=Nat.gcd_dvd_right _ _;generalize hgg:Nat.gcd (numI s) (numI t)=g at *
   have rt:=room_le (Nat.div_le_self (numI t) g) (jS e2);have l1:=xr false g;have l2:=xr true g
   have fin:∀ b:Bool,b=negI t->∀ (z w:L8×L8×Int),z=dmI s (wr b g).1->w=dmI t (wr b g).1 ->
     (decide (w.1=[49])=true->RetR zcm 0 Q [.str z.1,.i 0] [])/\(decide (w.1=[49])=false->z.1.length+1<=9223372036854775807/\(z.1.length+1<=9223372036854775807->(z.1++[47]).length+w.1.length<=9223372036854775807/\((z.1++[47]).length+w.1.length<=9223372036854775807->RetR zcm 0 Q [.str (z.1++[47]++w.1),.i 0] []))):=by
    rintro b rfl z w rfl rfl;rw [Yl e1 g0 gr ds,Yl e2 g0 gr dt];simp only;have:(negI t != negI t)=false:=by simp
    rw [this];have k1:=xr (negI s != negI t) (numI s/g);have k2:=xr false (numI t/g);refine⟨λh=> ?_,λh=>⟨by omega,λ_=>⟨by simp; omega,λ_=> ?_⟩⟩⟩
    ·have h1:=(zac rt).1 (aB h);rw [aP h1] at hq;exact RetR.scal hq rfl (by simp [resV])
    ·have h1:¬ numI t/g=1:=λh1=>aC h ((zac rt).2 h1)
     rw [aO h1] at hq;exact RetR.scal hq rfl (by simp [resV])
   rw [eg] at hz ⊢;refine⟨λh=>(by simp [hz] at h),λ_=>⟨λh=>absurd (aB h) ht0,λ_=>⟨⟨by omega,by have:=List.length_pos_iff.2 htn; omega⟩,λ_=>⟨λhb=>⟨by omega,λ_=> ?_⟩,λhb=> ?_⟩⟩⟩⟩
   ·have hn:negI t=true:=by
     rw [hneg,aK];exact YA (aB hb)
    rw [zix g0 gr];refine⟨(s,(wr true g).1),⟨by simp,by show s.length<_; omega,by show(wr true g).1.length<_; omega⟩,⟨_,rfl⟩,?_⟩;intro z hz;refine⟨(t,(wr true g).1),⟨by simp,by show t.length<_; omega,by show(wr true g).1.length<_; omega⟩,⟨_,rfl⟩,?_⟩;intro w hw;exact fin true hn.symm z w hz hw
   ·have hn:negI t=false:=by
     rw [hneg,aV];intro h;apply aC hb;rw [h]; rfl
    refine⟨(s,(wr false g).1),⟨by simp,by show s.length<_; omega,by show(wr false g).1.length<_; omega⟩,⟨_,rfl⟩,?_⟩;intro z hz;refine⟨(t,(wr false g).1),⟨by simp,by show t.length<_; omega,by show(wr false g).1.length<_; omega⟩,⟨_,rfl⟩,?_⟩;intro w hw;exact fin false hn.symm z w hz hw
 ·have eg:gcdR s t=([],z8 s t):=aO he;have e:wI s t=([],z8 s t):=aP he;rw [e] at hq;rw [eg];exact⟨λ_=>RetR.scal hq rfl (by simp [resV]),λh=>by simp [he] at h⟩
noncomputable def K154:=Go.Sx.aA f154
structure Pr where
 n:L8
 m:L8
 d:L8
 c:L8
 e:Int
def Pr.box(p:Pr):Blk:=.box [.str p.n,.str p.m,.str p.d,.str p.c,.i p.e]
def Pr.err(p:Pr)(e:Int):Pr:=⟨p.n,p.m,p.d,p.c,e⟩
inductive QOp where
 | add | sub | mul
def QOp.fn:QOp->Nat
 | .add=>245
 | .sub=>246
 | .mul=>156
def QOp.has:QOp->Prop
 | .sub=>True
 | _=>True
def QOp.op:QOp->L8->L8->L8×Int
 | .add=>addI
 | .sub=>subI
 | .mul=>mulI
def j5(a b:L8):Pr:=if errR a≠0 then⟨[],[],[],[],errR a⟩ else if errR b≠0 then⟨numR a,[],denR a,[],errR b⟩ else⟨numR a,numR b,denR a,denR b,0⟩
def zlm:Ctr:=ctrT false false (λp:L8×L8=>[.str p.1,.str p.2]) (λ_=>[]) (λp=>p.1.length<2^62/\p.2.length<2^62) (λp r=>r=j5 p.1 p.2) (λ_ (r:Pr)=>(.ptr 0 0,[r.box]))
def zi6:Ctr:=ctrT false false (λp:Pr×QOp=>[.ptr 0 0,.fn p.2.fn [] []]) (λp=>[p.1.box]) (λ_=>True) (λ_ (_:Unit)=>True) (λp _=>(.fn 188 [] [.ptr 1 0,.ptr 2 0],[p.1.box,.box [.ptr 0 0],.box [.fn p.2.fn [] []]]))
structure KX where
 p:Pr
 o:QOp
 x:L8
 y:L8
def Ut:Ctr:=ctrT false false (λk:KX=>[.str k.x,.str k.y,.ptr 0 0,.ptr 2 0]) (λk=>[.box [.ptr 1 0],k.p.box,.box [.fn k.o.fn [] []]]) (λk=>k.x.length<2^62/\k.y.length<2^62/\k.o.has) (λk r=>r=if k.p.e≠0 then([],k.p.e) else k.o.op k.x k.y)
 (λk (r:L8×Int)=>(.str r.1,[.box [.ptr 1 0],(k.p.err r.2).box,.box [.fn k.o.fn [] []]]))
def zg8:Ctr:=ctrT false false (λk:Pr×L8×L8=>[.ptr 0 0,.str k.2.1,.str k.2.2]) (λk=>[k.1.box]) (λk=>k.2.1.length<2^62/\k.2.2.length<2^62) (λk r=>r=if k.1.e≠0 then([],k.1.e) else wI k.2.1 k.2.2)
 (λk (r:L8×Int)=>(.tup [.str r.1,.i r.2],[k.1.box]))
theorem zlo:zf prog 155 zi6:=by
 refine zP (fn:=f155) (c:=f155.body.getD .skip) rfl rfl rfl (λh=>by cases h) λp hp O w0 I0 Q hl0 hq=> ?_
 obtain⟨p,o⟩:=p;replace hq:=hq () trivial;refine zc.n zH [] (.R [.fn 188 [] [.ptr 1 0,.ptr 2 0]] [.box [.str p.n,.str p.m,.str p.d,.str p.c,.i p.e],.box [.ptr 0 0],.box [.fn (QOp.fn o) [] []]]) ?_;simp only [Tree.holds,zd];refine RetR.keep [0,1,2] rfl rfl (by show ∀ j,j<1->_; decide) rfl hq ?_ ?_ rfl
 ·rfl
 ·exact⟨⟨rfl,rfl,rfl,rfl,⟨rfl,rfl⟩,trivial⟩,⟨⟨rfl,rfl⟩,trivial⟩,⟨rfl,trivial⟩,trivial⟩
noncomputable def GK1:=tb zsl (tb zrp (tb zry tz))
theorem zhb:zf prog 188 Ut:=by
 refine zP (fn:=f188) (c:=f188.body.getD .skip) rfl rfl rfl (λh=>by cases h) λk hk O w0 I0 Q hl0 hq=> ?_
 obtain⟨⟨n,m,d,c,e⟩,o,x,y⟩:=k;obtain⟨h1,h2,h3⟩:=hk;replace hq:=hq _ rfl;simp only at h1 h2 h3 hq
 have fin:∀ r:L8×Int,(if e≠0 then([],e) else o.op x y)=r->RetR Ut 3 Q [.str r.1] [.box [.ptr 1 0],.box [.str n,.str m,.str d,.str c,.i r.2],.box [.fn o.fn [] []]]:=by
  rintro r rfl;refine RetR.keep [0,1,2] rfl rfl (by show ∀ j,j<3->_; decide) rfl hq ?_ ?_ rfl
  ·rfl
  ·exact⟨⟨⟨rfl,rfl⟩,trivial⟩,⟨rfl,rfl,rfl,rfl,⟨rfl,rfl⟩,trivial⟩,⟨rfl,trivial⟩,trivial⟩
 cases o with
 | add=>
  refine zc.n GK1.h [] (.N (e=0) (.R [.str #[].toList] [.box [.ptr 1 0],.box [.str n,.str m,.str d,.str c,.i e],.box [.fn 245 [] []]]) (.ex (q17 [.str x,.str y]) λn_1=>.all (λ(r:L8×Int)=>r=addI n_1.1 n_1.2) λn_2=>.R [.str n_2.1] [.box [.ptr 1 0],.box [.str n,.str m,.str d,.str c,.i n_2.2],.box [.fn 245 [] []]])) ?_;simp only [q17,Tree.holds,zd];refine⟨λh=> ?_,λh=>⟨(x,y),⟨by simp,h1,h2⟩,⟨_,rfl⟩,?_⟩⟩
  ·have h:e≠0:=by simpa using h
   exact fin ([],e) (aP h)
  ·have h:e=0:=by simpa using h
   rintro _ rfl;exact fin (addI x y) (aO (by simp [h]))
 | sub=>
  refine zc.n GK1.h [] (.N (e=0) (.R [.str #[].toList] [.box [.ptr 1 0],.box [.str n,.str m,.str d,.str c,.i e],.box [.fn 246 [] []]]) (.ex (q17 [.str x,.str y]) λn_1=>.all (λ(r:L8×Int)=>r=subI n_1.1 n_1.2) λn_2=>.R [.str n_2.1] [.box [.ptr 1 0],.box [.str n,.str m,.str d,.str c,.i n_2.2],.box [.fn 246 [] []]])) ?_;simp only [q17,Tree.holds,zd];refine⟨λh=> ?_,λh=>⟨(x,y),⟨by simp,h1,h2⟩,⟨_,rfl⟩,?_⟩⟩
  ·have h:e≠0:=by simpa using h
   exact fin ([],e) (aP h)
  ·have h:e=0:=by simpa using h
   rintro _ rfl;exact fin (subI x y) (aO (by simp [h]))
 | mul=>
  refine zc.n GK1.h [] (.N (e=0) (.R [.str #[].toList] [.box [.ptr 1 0],.box [.str n,.str m,.str d,.str c,.i e],.box [.fn 156 [] []]]) (.ex (q17 [.str x,.str y]) λn_1=>.all (λ(r:L8×Int)=>r=mulI n_1.1 n_1.2) λn_2=>.R [.str n_2.1] [.box [.ptr 1 0],.box [.str n,.str m,.str d,.str c,.i n_2.2],.box [.fn 156 [] []]])) ?_;simp only [q17,Tree.holds,zd];refine⟨λh=> ?_,λh=>⟨(x,y),⟨by simp,h1,h2⟩,⟨_,rfl⟩,?_⟩⟩
  ·have h:e≠0:=by simpa using h
   exact fin ([],e) (aP h)
  ·have h:e=0:=by simpa using h
   rintro _ rfl;exact fin (mulI x y) (aO (by simp [h]))
noncomputable def GMd:=tb zmb tz
theorem zmu:zf prog 157 zg8:=by
 refine zP (fn:=f157) (c:=f157.body.getD .skip) rfl rfl rfl (λh=>by cases h) λk hk O w0 I0 Q hl0 hq=> ?_
 obtain⟨⟨n,m,d,c,e⟩,x,y⟩:=k;obtain⟨h1,h2⟩:=hk;replace hq:=hq _ rfl;simp only at h1 h2 hq
 have fin:∀ r:L8×Int,(if e≠0 then([],e) else wI x y)=r->RetR zg8 1 Q [.str r.1,.i r.2] [.box [.str n,.str m,.str d,.str c,.i e]]:=by
  rintro r rfl;refine RetR.keep [0] rfl rfl (by show ∀ j,j<1->_; decide) rfl hq ?_ ?_ rfl
  ·exact⟨rfl,⟨rfl,rfl⟩,trivial⟩
  ·exact⟨⟨rfl,rfl,rfl,rfl,⟨rfl,rfl⟩,trivial⟩,trivial⟩
 refine zc.n GMd.h [] (let v1:List Blk:=[.box [.str n,.str m,.str d,.str c,.i e]];.N (e=0) (.R [.str #[].toList,.i e] v1) (.ex (q17 [.str x,.str y]) λn_1=>.all (λ(r:L8×Int)=>r=wI n_1.1 n_1.2) λn_2=>.R [.str n_2.1,.i n_2.2] v1)) ?_;simp only [q17,Tree.holds,zd];refine⟨λh=> ?_,λh=>⟨(x,y),⟨by simp,h1,h2⟩,⟨_,rfl⟩,?_⟩⟩
 ·have h:e≠0:=by simpa using h
  exact fin ([],e) (aP h)
 ·have h:e=0:=by simpa using h
  rintro _ rfl;exact fin (wI x y) (aO (by simp [h]))
def Pst(a b:L8):Nat->Pr
 | 0=>⟨[],[],[],[],0⟩
 | 1=>if errR a≠0 then⟨[],[],[],[],errR a⟩ else⟨numR a,[],denR a,[],0⟩
 | _=>j5 a b
def SBq(a b:L8)(i:Nat):KV:=[(5,.ptr 0 0),(12,.agg [.str a,.str b]),(13,.i (i:Int))]
noncomputable def GBq:=tb zju tz
theorem zgv:zf prog 154 zlm:=by
 refine zP (fn:=f154) (c:=f154.body.getD .skip) rfl rfl rfl (λh=>by cases h) λp hp O w0 I0 Q hl0 hq=> ?_
 obtain rfl:I0=[]:=aU.1 hl0;obtain⟨a,b⟩:=p;obtain⟨h1,h2⟩:=hp;replace hq:=hq _ rfl;simp only at h1 h2 hq;refine zc.n GBq.h [5,12,13] (.leaf (.loop (lps K154 0).1 (lps K154 0).2 [(5,.ptr 0 0),(12,.agg [.str a,.str b]),(13,.i 0)] [.box [.str #[].toList,.str #[].toList,.str #[].toList,.str #[].toList,.i 0]])) ?_;simp only [Tree.holds,zd];refine zc.loop (ι:={i:Nat // i<=2}) (λi=>SBq a b i.1) (λi=>[(Pst a b i.1).box]) (λi=>2 - i.1) ⟨0,aI _⟩ 0 ?_ ?_ (by kernel_rfl)
 ·exact⟨by simp [SBq],by simp [Pst,Pr.box],by kernel_rfl,aI _⟩
 rintro⟨i,hil⟩
 match i,hil with
 | 0,_=>
  refine zc.n GBq.h [5,12,13] (let v2:List Blk:=[.box [.str [],.str [],.str [],.str [],.i 0]];let v1:List (Nat×AV):=[(5,.ptr 0 0),(12,.agg [.str a,.str b]),(13,.i 1)];.ite true (.side ((0:Int)<=0/\(0:Int)<2/\1<=List.length [AV.str a,AV.str b]) (.ite true (.ex (q15 [.str a]) λn=>.all (λ(r:L8×L8×Int)=>r=if errR n=0 then(numR n,denR n,(0:Int)) else([],[],errR n)) λn=>.side ((0:Int)<=0/\(0:Int)<2) (.side ((0:Int)<=0/\(0:Int)<2) (.S 1 (.leaf (.back 0 v1 [.box [.str n.1,.str [],.str n.2.1,.str [],.i n.2.2]]))))) (.S 1 (.leaf (.back 0 v1 v2))))) (.R [.ptr 0 0] v2)) ?_;simp only [q15,Tree.holds,zd,inR,lo,hi,aD];refine⟨λ_=>⟨by simp,λ_=>⟨λ_=>⟨a,⟨by simp,h1⟩,⟨_,rfl⟩,?_⟩,λh=>(by cases h)⟩⟩,λh=>(by cases h)⟩;intro r hr;refine⟨by decide,λ_=>⟨by decide,λ_=>⟨by decide,λ_=> ?_⟩⟩⟩;rw [aP trivial];refine⟨⟨1,by decide⟩,by decide,by simp [SBq],?_,by kernel_rfl,aI _⟩
  have e:Pst a b 1=⟨r.1,[],r.2.1,[],r.2.2⟩:=by
   rw [hr];by_cases h:errR a=0
   ·simp [Pst,h]
   ·simp [Pst,h]
  show eqH _ [(Pst a b 1).box];rw [e];simp [Pr.box]
 | 1,_=>
  obtain⟨⟨n,m,d,c,e⟩,hp⟩:∃ p,Pst a b 1=p:=⟨_,rfl⟩;simp only [hp];refine zc.n GBq.h [5,12,13] (let v2:List Blk:=[.box [.str n,.str m,.str d,.str c,.i e]];let v1:List (Nat×AV):=[(5,.ptr 0 0),(12,.agg [.str a,.str b]),(13,.i 2)];.ite true (.side ((0:Int)<=1/\(1:Int)<2/\2<=List.length [AV.str a,AV.str b]) (.D (e=0) (.ex (q15 [.str b]) λn_1=>.all (λ(r:L8×L8×Int)=>r=if errR n_1=0 then(numR n_1,denR n_1,(0:Int)) else([],[],errR n_1)) λn_2=>.side ((0:Int)<=1/\(1:Int)<2) (.side ((0:Int)<=1/\(1:Int)<2) (.S 2 (.leaf (.back 0 v1 [.box [.str n,.str n_2.1,.str d,.str n_2.2.1,.i n_2.2.2]]))))) (.S 2 (.leaf (.back 0 v1 v2))))) (.R [.ptr 0 0] v2)) ?_;simp only [q15,Tree.holds,zd,inR,lo,hi,aD];refine⟨λ_=>⟨by simp,λ_=>⟨λh=>⟨b,⟨by simp,h2⟩,⟨_,rfl⟩,?_⟩,λh=>⟨by decide,λ_=> ?_⟩⟩⟩,λh=>(by cases h)⟩
  ·have h:e=0:=by simpa using h
   intro r hr;refine⟨by decide,λ_=>⟨by decide,λ_=>⟨by decide,λ_=> ?_⟩⟩⟩;rw [aP trivial];refine⟨⟨2,by decide⟩,by decide,by simp [SBq],?_,by kernel_rfl,aI _⟩
   have e2:Pst a b 2=⟨n,r.1,d,r.2.1,r.2.2⟩:=by
    rw [hr];by_cases ha:errR a=0
    ·simp only [Pst,ha] at hp;simp at hp;obtain⟨rfl,rfl,rfl,rfl,_⟩:=hp;by_cases hb:errR b=0
     ·simp [Pst,j5,ha,hb]
     ·simp [Pst,j5,ha,hb]
    ·simp only [Pst] at hp;rw [aP ha] at hp;cases hp;exact absurd h ha
   show eqH _ [(Pst a b 2).box];rw [e2];simp [Pr.box]
  ·have h:e≠0:=by simpa using h
   rw [aP trivial];refine⟨⟨2,by decide⟩,by decide,by simp [SBq],?_,by kernel_rfl,aI _⟩
   have e2:Pst a b 2=⟨n,m,d,c,e⟩:=by
    by_cases ha:errR a=0
    ·simp only [Pst,ha] at hp;simp at hp;exact absurd hp.2.2.2.2.symm h
    ·rw [<- hp];simp only [Pst,j5];rw [aP ha,aP ha]
   show eqH _ [(Pst a b 2).box];rw [e2];simp [Pr.box]
 | 2,_=>
  obtain⟨⟨n,m,d,c,e⟩,hp⟩:∃ p,Pst a b 2=p:=⟨_,rfl⟩;simp only [hp];refine zc.n GBq.h [5,12,13] (.ite false (.side ((0:Int)<=2/\(2:Int)<2/\3<=List.length [AV.str a,AV.str b]) .fail) (.R [.ptr 0 0] [.box [.str n,.str m,.str d,.str c,.i e]])) ?_;simp only [Tree.holds,zd,inR,lo,hi,aD];refine⟨λh=>(by cases h),λ_=> ?_⟩;have hp:j5 a b=⟨n,m,d,c,e⟩:=hp;rw [hp] at hq;refine RetR.out1 0 (by show 0<1; decide) hq (λh=>by cases h) ?_ ?_
  ·exact⟨rfl,rfl⟩
  ·exact⟨rfl,rfl,rfl,rfl,⟨rfl,rfl⟩,trivial⟩
theorem kC(a b:L8):((j5 a b).e≠0/\w6 a b=(j5 a b).e)\/((j5 a b).e=0/\errR a=0/\errR b=0/\(j5 a b).n=numR a/\(j5 a b).m=numR b/\(j5 a b).d=denR a/\(j5 a b).c=denR b):=by
 unfold j5;by_cases ha:errR a=0
 ·rw [aO (by rw [ha]; simp)];by_cases hb:errR b=0
  ·rw [aO (by rw [hb]; simp)];exact .inr ⟨rfl,ha,hb,rfl,rfl,rfl,rfl⟩
  ·rw [aP hb];exact .inl ⟨hb,by unfold w6; rw [aP ha]⟩
 ·rw [aP ha];exact .inl ⟨ha,by unfold w6; rw [aO ha]⟩
theorem y4(a b:L8):(j5 a b).n.length<=a.length/\(j5 a b).m.length<=b.length/\(j5 a b).d.length<=a.length+1/\(j5 a b).c.length<=b.length+1:=by
 have h1:=Yw a;have h2:=Yw b;have h3:=Ys a;have h4:=Ys b;unfold j5;split
 ·simp
 ·split
  ·simp; omega
  ·simp only; omega
theorem kx_l(x y:L8):eqL [.str x,.str y,.ptr 0 0,.ptr 2 0] [.str x,.str y,.ptr 0 0,.ptr 2 0]:=⟨rfl,rfl,⟨rfl,rfl⟩,⟨rfl,rfl⟩,trivial⟩
theorem kx_b(p:Pr):eqH [.box [.str p.n,.str p.m,.str p.d,.str p.c,.i p.e]] [.box [.str p.n,.str p.m,.str p.d,.str p.c,.i p.e]]:=⟨⟨rfl,rfl,rfl,rfl,⟨rfl,rfl⟩,trivial⟩,trivial⟩
theorem kx_h(p:Pr)(f:Nat):eqH [.box [.ptr 1 0],.box [.str p.n,.str p.m,.str p.d,.str p.c,.i p.e],.box [.fn f [] []]] [.box [.ptr 1 0],.box [.str p.n,.str p.m,.str p.d,.str p.c,.i p.e],.box [.fn f [] []]]:=⟨⟨⟨rfl,rfl⟩,trivial⟩,(kx_b p).1,⟨rfl,trivial⟩,trivial⟩
theorem kx_k(f:Nat):eqL [.ptr 0 0,.fn f [] []] [.ptr 0 0,.fn f [] []]:=⟨⟨rfl,rfl⟩,rfl,trivial⟩
theorem kx_m(x y:L8):eqL [.ptr 0 0,.str x,.str y] [.ptr 0 0,.str x,.str y]:=⟨⟨rfl,rfl⟩,rfl,rfl,trivial⟩
theorem qK(p:Pr)(o:QOp)(x y:L8){r:L8×Int}(h:r=if p.e≠0 then([],p.e) else o.op x y):r.1.length<=1001:=by
 rw [h];refine zok ?_;cases o
 ·exact zie x y
 ·exact zi7 x y
 ·exact zlf x y
noncomputable def GQA:=tb zgv (tb zlo (tb zhb (tb zmu (tb zop tz))))
def zbv:Ctr:=ctrP true (λp:L8×L8=>[.str p.1,.str p.2]) (λp=>p.1.length<2^61/\p.2.length<2^61) (λp r=>r=addR p.1 p.2) (λ_ r=>(.tup [.str r.1,.i r.2],[]))
def zd8:Ctr:=ctrP true (λp:L8×L8=>[.str p.1,.str p.2]) (λp=>p.1.length<2^61/\p.2.length<2^61) (λp r=>r=subR p.1 p.2) (λ_ r=>(.tup [.str r.1,.i r.2],[]))
def Y6:Ctr:=ctrP true (λp:L8×L8=>[.str p.1,.str p.2]) (λp=>p.1.length<2^61/\p.2.length<2^61) (λp r=>r=mulR p.1 p.2) (λ_ r=>(.tup [.str r.1,.i r.2],[]))
def zpz:Ctr:=ctrP true (λp:L8×L8=>[.str p.1,.str p.2]) (λp=>p.1.length<2^61/\p.2.length<2^61) (λp r=>r=cmpR p.1 p.2) (λ_ r=>(.tup [.i r.1,.i r.2],[]))
abbrev q44(A:List AV)(H:Heap)(x:Pr×L8×L8):Prop:=eqL A [.ptr 0 0,.str x.2.1,.str x.2.2]/\eqH H [.box [.str x.1.n,.str x.1.m,.str x.1.d,.str x.1.c,.i x.1.e]]/\1=1/\x.2.1.length<4611686018427387904/\x.2.2.length<4611686018427387904
abbrev q43(A:List AV)(H:Heap)(x:KX):Prop:=eqL A [.str x.x,.str x.y,.ptr 0 0,.ptr 2 0]/\eqH H [.box [.ptr 1 0],.box [.str x.p.n,.str x.p.m,.str x.p.d,.str x.p.c,.i x.p.e],.box [.fn (QOp.fn x.o) [] []]]/\3=3/\x.x.length<4611686018427387904/\x.y.length<4611686018427387904/\QOp.has x.o
abbrev q42(A:List AV)(H:Heap)(x:Pr×QOp):Prop:=eqL A [.ptr 0 0,.fn (QOp.fn x.2) [] []]/\eqH H [.box [.str x.1.n,.str x.1.m,.str x.1.d,.str x.1.c,.i x.1.e]]/\1=1/\True
abbrev q41(A:List AV)(H:Heap)(x:L8×L8):Prop:=eqL A [.str x.1,.str x.2]/\eqH H []/\0=0/\x.1.length<4611686018427387904/\x.2.length<4611686018427387904
theorem KK:zf prog 243 zbv:=by
 refine zh' f243 λp hp O w0 Q hq=> ?_
 obtain⟨a,b⟩:=p;obtain⟨h1,h2⟩:=hp;replace hq:=hq _ rfl;simp only at h1 h2 hq;refine zc.n GQA.h [] (let v5:=[AV.ptr 1 0];.ex (q41 [.str a,.str b] []) λn=>.all (λ(r:Pr)=>r=j5 n.1 n.2) λn=>.ex (q42 [.ptr 0 0,.fn 156 [] []] [.box [.str n.n,.str n.m,.str n.d,.str n.c,.i n.e]]) λn=>.A λn_1=>.ex (q42 [.ptr 0 0,.fn 245 [] []] [.box [.str n.1.n,.str n.1.m,.str n.1.d,.str n.1.c,.i n.1.e]]) λn_2=>.A λn_3=>.side ((0:Int)<=0/\(0:Int)<2) (.side ((0:Int)<=1/\(1:Int)<2) (.side ((0:Int)<=1/\(1:Int)<2) (.side ((0:Int)<=0/\(0:Int)<2) (.side ((0:Int)<=0/\(0:Int)<2) (.side ((0:Int)<=1/\(1:Int)<2) (.ex (q43 [.str n_2.1.n,.str n_2.1.c,.ptr 0 0,.ptr 2 0] [.box v5,.box [.str n_2.1.n,.str n_2.1.m,.str n_2.1.d,.str n_2.1.c,.i n_2.1.e],.box [.fn (QOp.fn n.2) [] []]]) λn=>.all (λ(r:L8×Int)=>r=if Pr.e n.p≠0 then([],Pr.e n.p) else QOp.op n.o n.x n.y) λn_4=>let v1:=Pr.err n.p n_4.2;.side (Pr.c v1=Pr.c n_2.1) (.side (Pr.d v1=Pr.d n_2.1) (.side (Pr.d v1=Pr.d n_2.1) (.side (Pr.m v1=Pr.m n_2.1) (.ex (q43 [.str n_2.1.m,.str n_2.1.d,.ptr 0 0,.ptr 2 0] [.box v5,.box [.str v1.n,.str v1.m,.str v1.d,.str v1.c,.i v1.e],.box [.fn (QOp.fn n.o) [] []]]) λn=>.all (λ(r:L8×Int)=>r=if Pr.e n.p≠0 then([],Pr.e n.p) else QOp.op n.o n.x n.y) λn_5=>let v3:=Pr.err n.p n_5.2;.side (Pr.c v3=Pr.c n_2.1) (.side (Pr.d v3=Pr.d n_2.1) (.ex (q43 [.str n_4.1,.str n_5.1,.ptr 0 0,.ptr 2 0] [.box v5,.box [.str v3.n,.str v3.m,.str v3.d,.str v3.c,.i v3.e],.box [.fn (QOp.fn n_2.2) [] []]]) λn_6=>.all (λ(r:L8×Int)=>r=if Pr.e n_6.p≠0 then([],Pr.e n_6.p) else QOp.op n_6.o n_6.x n_6.y) λn_7=>let v2:=Pr.err n_6.p n_7.2;.side (Pr.c v2=Pr.c n_2.1) (.side (Pr.d v2=Pr.d n_2.1) (.ex (q43 [.str n_2.1.d,.str n_2.1.c,.ptr 0 0,.ptr 2 0] [.box v5,.box [.str v2.n,.str v2.m,.str v2.d,.str v2.c,.i v2.e],.box [.fn (QOp.fn n.o) [] []]]) λn=>.all (λ(r:L8×Int)=>r=if Pr.e n.p≠0 then([],Pr.e n.p) else QOp.op n.o n.x n.y) λn_8=>let v4:=Pr.err n.p n_8.2;.ex (q44 [.ptr 0 0,.str n_7.1,.str n_8.1] [.box [.str v4.n,.str v4.m,.str v4.d,.str v4.c,.i v4.e]]) λn_9=>.all (λ(r:L8×Int)=>r=if Pr.e n_9.1≠0 then([],Pr.e n_9.1) else wI n_9.2.1 n_9.2.2) λn_10=>.R [.str n_10.1,.i n_10.2] [.box [.str n_9.1.n,.str n_9.1.m,.str n_9.1.d,.str n_9.1.c,.i n_9.1.e],.box [.ptr 0 0],.box [.fn (QOp.fn n.o) [] []],.box [.ptr 0 0],.box [.fn (QOp.fn n_6.o) [] []]]))))))))))))))) ?_;simp only [q41,q42,q43,q44,Tree.holds,zd];refine⟨(a,b),⟨⟨rfl,rfl,trivial⟩,trivial,by trivial,by show a.length<_; omega,by show b.length<_; omega⟩,⟨_,rfl⟩,?_⟩;intro p hp;have hc:=kC a b;obtain⟨l1,l2,l3,l4⟩:=y4 a b;rw [<- hp] at hc l1 l2 l3 l4;refine⟨(p,.mul),⟨kx_k _,kx_b p,by trivial,trivial⟩,⟨(),trivial⟩,?_⟩;intro _ _;refine⟨(p,.add),⟨kx_k _,kx_b p,by trivial,trivial⟩,⟨(),trivial⟩,?_⟩;intro _ _
 iterate 6 refine⟨by decide,λ_=> ?_⟩
 refine⟨⟨p,.mul,p.n,p.c⟩,⟨kx_l _ _,kx_h (p) _,by trivial,by show(p.n).length<_; omega,by show(p.c).length<_; omega,by trivial⟩,⟨_,rfl⟩,?_⟩;intro r1 hr1;have kr1:=qK _ _ _ _ hr1
 iterate 4 refine⟨rfl,λ_=> ?_⟩
 refine⟨⟨p.err r1.2,.mul,p.m,p.d⟩,⟨kx_l _ _,kx_h (p.err r1.2) _,by trivial,by show(p.m).length<_; omega,by show(p.d).length<_; omega,by trivial⟩,⟨_,rfl⟩,?_⟩;intro r2 hr2;have kr2:=qK _ _ _ _ hr2
 iterate 2 refine⟨rfl,λ_=> ?_⟩
 refine⟨⟨(p.err r1.2).err r2.2,.add,r1.1,r2.1⟩,⟨kx_l _ _,kx_h ((p.err r1.2).err r2.2) _,by trivial,by show(r1.1).length<_; omega,by show(r2.1).length<_; omega,by trivial⟩,⟨_,rfl⟩,?_⟩;intro r3 hr3;have kr3:=qK _ _ _ _ hr3
 iterate 2 refine⟨rfl,λ_=> ?_⟩
 refine⟨⟨((p.err r1.2).err r2.2).err r3.2,.mul,p.d,p.c⟩,⟨kx_l _ _,kx_h (((p.err r1.2).err r2.2).err r3.2) _,by trivial,by show(p.d).length<_; omega,by show(p.c).length<_; omega,by trivial⟩,⟨_,rfl⟩,?_⟩;intro r4 hr4;have kr4:=qK _ _ _ _ hr4;refine⟨((((p.err r1.2).err r2.2).err r3.2).err r4.2,r3.1,r4.1),⟨kx_m _ _,kx_b _,by trivial,by show(r3.1).length<_; omega,by show(r4.1).length<_; omega⟩,⟨_,rfl⟩,?_⟩;intro r5 hr5;have hfin:=Qy hc (λ{s t} =>zgx (s:=s) (t:=t)) hr1 hr2 hr3 hr4 hr5;have e:r5=addR a b:=hfin;rw [<- e] at hq;exact RetR.scal hq rfl (by simp [resV])
theorem Xv:zf prog 244 zd8:=by
 refine zh' f244 λp hp O w0 Q hq=> ?_
 obtain⟨a,b⟩:=p;obtain⟨h1,h2⟩:=hp;replace hq:=hq _ rfl;simp only at h1 h2 hq;refine zc.n GQA.h [] (let v5:=[AV.ptr 1 0];.ex (q41 [.str a,.str b] []) λn=>.all (λ(r:Pr)=>r=j5 n.1 n.2) λn=>.ex (q42 [.ptr 0 0,.fn 156 [] []] [.box [.str n.n,.str n.m,.str n.d,.str n.c,.i n.e]]) λn=>.A λn_1=>.ex (q42 [.ptr 0 0,.fn 246 [] []] [.box [.str n.1.n,.str n.1.m,.str n.1.d,.str n.1.c,.i n.1.e]]) λn_2=>.A λn_3=>.side ((0:Int)<=0/\(0:Int)<2) (.side ((0:Int)<=1/\(1:Int)<2) (.side ((0:Int)<=1/\(1:Int)<2) (.side ((0:Int)<=0/\(0:Int)<2) (.side ((0:Int)<=0/\(0:Int)<2) (.side ((0:Int)<=1/\(1:Int)<2) (.ex (q43 [.str n_2.1.n,.str n_2.1.c,.ptr 0 0,.ptr 2 0] [.box v5,.box [.str n_2.1.n,.str n_2.1.m,.str n_2.1.d,.str n_2.1.c,.i n_2.1.e],.box [.fn (QOp.fn n.2) [] []]]) λn=>.all (λ(r:L8×Int)=>r=if Pr.e n.p≠0 then([],Pr.e n.p) else QOp.op n.o n.x n.y) λn_4=>let v1:=Pr.err n.p n_4.2;.side (Pr.c v1=Pr.c n_2.1) (.side (Pr.d v1=Pr.d n_2.1) (.side (Pr.d v1=Pr.d n_2.1) (.side (Pr.m v1=Pr.m n_2.1) (.ex (q43 [.str n_2.1.m,.str n_2.1.d,.ptr 0 0,.ptr 2 0] [.box v5,.box [.str v1.n,.str v1.m,.str v1.d,.str v1.c,.i v1.e],.box [.fn (QOp.fn n.o) [] []]]) λn=>.all (λ(r:L8×Int)=>r=if Pr.e n.p≠0 then([],Pr.e n.p) else QOp.op n.o n.x n.y) λn_5=>let v3:=Pr.err n.p n_5.2;.side (Pr.c v3=Pr.c n_2.1) (.side (Pr.d v3=Pr.d n_2.1) (.ex (q43 [.str n_4.1,.str n_5.1,.ptr 0 0,.ptr 2 0] [.box v5,.box [.str v3.n,.str v3.m,.str v3.d,.str v3.c,.i v3.e],.box [.fn (QOp.fn n_2.2) [] []]]) λn_6=>.all (λ(r:L8×Int)=>r=if Pr.e n_6.p≠0 then([],Pr.e n_6.p) else QOp.op n_6.o n_6.x n_6.y) λn_7=>let v2:=Pr.err n_6.p n_7.2;.side (Pr.c v2=Pr.c n_2.1) (.side (Pr.d v2=Pr.d n_2.1) (.ex (q43 [.str n_2.1.d,.str n_2.1.c,.ptr 0 0,.ptr 2 0] [.box v5,.box [.str v2.n,.str v2.m,.str v2.d,.str v2.c,.i v2.e],.box [.fn (QOp.fn n.o) [] []]]) λn=>.all (λ(r:L8×Int)=>r=if Pr.e n.p≠0 then([],Pr.e n.p) else QOp.op n.o n.x n.y) λn_8=>let v4:=Pr.err n.p n_8.2;.ex (q44 [.ptr 0 0,.str n_7.1,.str n_8.1] [.box [.str v4.n,.str v4.m,.str v4.d,.str v4.c,.i v4.e]]) λn_9=>.all (λ(r:L8×Int)=>r=if Pr.e n_9.1≠0 then([],Pr.e n_9.1) else wI n_9.2.1 n_9.2.2) λn_10=>.R [.str n_10.1,.i n_10.2] [.box [.str n_9.1.n,.str n_9.1.m,.str n_9.1.d,.str n_9.1.c,.i n_9.1.e],.box [.ptr 0 0],.box [.fn (QOp.fn n.o) [] []],.box [.ptr 0 0],.box [.fn (QOp.fn n_6.o) [] []]]))))))))))))))) ?_;simp only [q41,q42,q43,q44,Tree.holds,zd];refine⟨(a,b),⟨⟨rfl,rfl,trivial⟩,trivial,by trivial,by show a.length<_; omega,by show b.length<_; omega⟩,⟨_,rfl⟩,?_⟩;intro p hp;have hc:=kC a b;obtain⟨l1,l2,l3,l4⟩:=y4 a b;rw [<- hp] at hc l1 l2 l3 l4;refine⟨(p,.mul),⟨kx_k _,kx_b p,by trivial,trivial⟩,⟨(),trivial⟩,?_⟩;intro _ _;refine⟨(p,.sub),⟨kx_k _,kx_b p,by trivial,trivial⟩,⟨(),trivial⟩,?_⟩;intro _ _
 iterate 6 refine⟨by decide,λ_=> ?_⟩
 refine⟨⟨p,.mul,p.n,p.c⟩,⟨kx_l _ _,kx_h (p) _,by trivial,by show(p.n).length<_; omega,by show(p.c).length<_; omega,by trivial⟩,⟨_,rfl⟩,?_⟩;intro r1 hr1;have kr1:=qK _ _ _ _ hr1
 iterate 4 refine⟨rfl,λ_=> ?_⟩
 refine⟨⟨p.err r1.2,.mul,p.m,p.d⟩,⟨kx_l _ _,kx_h (p.err r1.2) _,by trivial,by show(p.m).length<_; omega,by show(p.d).length<_; omega,by trivial⟩,⟨_,rfl⟩,?_⟩;intro r2 hr2;have kr2:=qK _ _ _ _ hr2
 iterate 2 refine⟨rfl,λ_=> ?_⟩
 refine⟨⟨(p.err r1.2).err r2.2,.sub,r1.1,r2.1⟩,⟨kx_l _ _,kx_h ((p.err r1.2).err r2.2) _,by trivial,by show(r1.1).length<_; omega,by show(r2.1).length<_; omega,by trivial⟩,⟨_,rfl⟩,?_⟩;intro r3 hr3;have kr3:=qK _ _ _ _ hr3
 iterate 2 refine⟨rfl,λ_=> ?_⟩
 refine⟨⟨((p.err r1.2).err r2.2).err r3.2,.mul,p.d,p.c⟩,⟨kx_l _ _,kx_h (((p.err r1.2).err r2.2).err r3.2) _,by trivial,by show(p.d).length<_; omega,by show(p.c).length<_; omega,by trivial⟩,⟨_,rfl⟩,?_⟩;intro r4 hr4;have kr4:=qK _ _ _ _ hr4;refine⟨((((p.err r1.2).err r2.2).err r3.2).err r4.2,r3.1,r4.1),⟨kx_m _ _,kx_b _,by trivial,by show(r3.1).length<_; omega,by show(r4.1).length<_; omega⟩,⟨_,rfl⟩,?_⟩;intro r5 hr5;have hfin:=Qy hc (λ{s t} =>zly (s:=s) (t:=t)) hr1 hr2 hr3 hr4 hr5;have e:r5=subR a b:=hfin;rw [<- e] at hq;exact RetR.scal hq rfl (by simp [resV])
theorem Q9:zf prog 124 Y6:=by
 refine zh' f124 λp hp O w0 Q hq=> ?_
 obtain⟨a,b⟩:=p;obtain⟨h1,h2⟩:=hp;replace hq:=hq _ rfl;simp only at h1 h2 hq;refine zc.n GQA.h [] (.ex (q41 [.str a,.str b] []) λn=>.all (λ(r:Pr)=>r=j5 n.1 n.2) λn=>.ex (q42 [.ptr 0 0,.fn 156 [] []] [.box [.str n.n,.str n.m,.str n.d,.str n.c,.i n.e]]) λn=>.A λn_1=>.side ((0:Int)<=0/\(0:Int)<2) (.side ((0:Int)<=1/\(1:Int)<2) (.side ((0:Int)<=0/\(0:Int)<2) (.side ((0:Int)<=1/\(1:Int)<2) (.ex (q43 [.str n.1.n,.str n.1.m,.ptr 0 0,.ptr 2 0] [.box [.ptr 1 0],.box [.str n.1.n,.str n.1.m,.str n.1.d,.str n.1.c,.i n.1.e],.box [.fn (QOp.fn n.2) [] []]]) λn_2=>.all (λ(r:L8×Int)=>r=if Pr.e n_2.p≠0 then([],Pr.e n_2.p) else QOp.op n_2.o n_2.x n_2.y) λn_3=>let v1:=Pr.err n_2.p n_3.2;.side (Pr.c v1=Pr.c n.1) (.side (Pr.d v1=Pr.d n.1) (.ex (q43 [.str n.1.d,.str n.1.c,.ptr 0 0,.ptr 2 0] [.box [.ptr 1 0],.box [.str v1.n,.str v1.m,.str v1.d,.str v1.c,.i v1.e],.box [.fn (QOp.fn n_2.o) [] []]]) λn=>.all (λ(r:L8×Int)=>r=if Pr.e n.p≠0 then([],Pr.e n.p) else QOp.op n.o n.x n.y) λn_4=>let v2:=Pr.err n.p n_4.2;.ex (q44 [.ptr 0 0,.str n_3.1,.str n_4.1] [.box [.str v2.n,.str v2.m,.str v2.d,.str v2.c,.i v2.e]]) λn_5=>.all (λ(r:L8×Int)=>r=if Pr.e n_5.1≠0 then([],Pr.e n_5.1) else wI n_5.2.1 n_5.2.2) λn_6=>.R [.str n_6.1,.i n_6.2] [.box [.str n_5.1.n,.str n_5.1.m,.str n_5.1.d,.str n_5.1.c,.i n_5.1.e],.box [.ptr 0 0],.box [.fn (QOp.fn n.o) [] []]]))))))) ?_;simp only [q41,q42,q43,q44,Tree.holds,zd];refine⟨(a,b),⟨⟨rfl,rfl,trivial⟩,trivial,by trivial,by show a.length<_; omega,by show b.length<_; omega⟩,⟨_,rfl⟩,?_⟩;intro p hp;have hc:=kC a b;obtain⟨l1,l2,l3,l4⟩:=y4 a b;rw [<- hp] at hc l1 l2 l3 l4;refine⟨(p,.mul),⟨kx_k _,kx_b p,by trivial,trivial⟩,⟨(),trivial⟩,?_⟩;intro _ _
 iterate 4 refine⟨by decide,λ_=> ?_⟩
 refine⟨⟨p,.mul,p.n,p.m⟩,⟨kx_l _ _,kx_h (p) _,by trivial,by show(p.n).length<_; omega,by show(p.m).length<_; omega,by trivial⟩,⟨_,rfl⟩,?_⟩;intro r1 hr1;have kr1:=qK _ _ _ _ hr1
 iterate 2 refine⟨rfl,λ_=> ?_⟩
 refine⟨⟨p.err r1.2,.mul,p.d,p.c⟩,⟨kx_l _ _,kx_h (p.err r1.2) _,by trivial,by show(p.d).length<_; omega,by show(p.c).length<_; omega,by trivial⟩,⟨_,rfl⟩,?_⟩;intro r2 hr2;have kr2:=qK _ _ _ _ hr2;refine⟨((p.err r1.2).err r2.2,r1.1,r2.1),⟨kx_m _ _,kx_b _,by trivial,by show(r1.1).length<_; omega,by show(r2.1).length<_; omega⟩,⟨_,rfl⟩,?_⟩;intro r3 hr3
 have hv:errR a=0->errR b=0->z8 p.n p.m=0/\z8 p.d p.c=0:=by
  intro ha hb;obtain⟨a1,a2,_⟩:=qU ha;obtain⟨b1,b2,_⟩:=qU hb;rcases hc with ⟨g1,g2⟩ | ⟨_,_,_,g1,g2,g3,g4⟩
  ·exact absurd g2 (by unfold w6; rw [aP ha,hb]; exactλh=>g1 h.symm)
  ·rw [g1,g2,g3,g4]; exact⟨zq.2 ⟨a1,b1⟩,zq.2 ⟨a2,b2⟩⟩
 have hfin:=zft hc hr1 hr2 hr3 hv
 have e:r3=mulR a b:=by
  rw [hfin];unfold mulR;rcases hc with ⟨g1,g2⟩ | ⟨_,_,_,g1,g2,g3,g4⟩
  ·rw [aP (by rw [g2]; exact g1),aP (by rw [g2]; exact g1)]
  ·rw [g1,g2,g3,g4]
 rw [<- e] at hq;exact RetR.scal hq rfl (by simp [resV])
theorem zp2:zf prog 202 zpz:=by
 refine zh' f202 λp hp O w0 Q hq=> ?_
 obtain⟨a,b⟩:=p;obtain⟨h1,h2⟩:=hp;replace hq:=hq _ rfl;simp only at h1 h2 hq;refine zc.n GQA.h [] (.ex (q41 [.str a,.str b] []) λn=>.all (λ(r:Pr)=>r=j5 n.1 n.2) λn=>.ex (q42 [.ptr 0 0,.fn 156 [] []] [.box [.str n.n,.str n.m,.str n.d,.str n.c,.i n.e]]) λn=>.A λn_1=>.side ((0:Int)<=0/\(0:Int)<2) (.side ((0:Int)<=1/\(1:Int)<2) (.side ((0:Int)<=1/\(1:Int)<2) (.side ((0:Int)<=0/\(0:Int)<2) (.ex (q43 [.str n.1.n,.str n.1.c,.ptr 0 0,.ptr 2 0] [.box [.ptr 1 0],.box [.str n.1.n,.str n.1.m,.str n.1.d,.str n.1.c,.i n.1.e],.box [.fn (QOp.fn n.2) [] []]]) λn_2=>.all (λ(r:L8×Int)=>r=if Pr.e n_2.p≠0 then([],Pr.e n_2.p) else QOp.op n_2.o n_2.x n_2.y) λn_3=>let v2:=Pr.err n_2.p n_3.2;.side (Pr.d v2=Pr.d n.1) (.side (Pr.m v2=Pr.m n.1) (.ex (q43 [.str n.1.m,.str n.1.d,.ptr 0 0,.ptr 2 0] [.box [.ptr 1 0],.box [.str v2.n,.str v2.m,.str v2.d,.str v2.c,.i v2.e],.box [.fn (QOp.fn n_2.o) [] []]]) λn=>.all (λ(r:L8×Int)=>r=if Pr.e n.p≠0 then([],Pr.e n.p) else QOp.op n.o n.x n.y) λn_4=>let v3:=Pr.err n.p n_4.2;let v1:List Blk:=[.box [.str v3.n,.str v3.m,.str v3.d,.str v3.c,.i v3.e],.box [.ptr 0 0],.box [.fn (QOp.fn n.o) [] []]];.N (Pr.e v3=(0:Int)) (.R [.i 0,.i v3.e] v1) (.ex (q17 [.str n_3.1,.str n_4.1]) λn_5=>.all (λ(r:Int×Int)=>r=VR n_5.1 n_5.2) λn_6=>.R [.i n_6.1,.i n_6.2] v1)))))))) ?_;simp only [q17,q41,q42,q43,Tree.holds,zd];refine⟨(a,b),⟨⟨rfl,rfl,trivial⟩,trivial,by trivial,by show a.length<_; omega,by show b.length<_; omega⟩,⟨_,rfl⟩,?_⟩;intro p hp;have hc:=kC a b;obtain⟨l1,l2,l3,l4⟩:=y4 a b;rw [<- hp] at hc l1 l2 l3 l4;refine⟨(p,.mul),⟨kx_k _,kx_b p,by trivial,trivial⟩,⟨(),trivial⟩,?_⟩;intro _ _
 iterate 4 refine⟨by decide,λ_=> ?_⟩
 refine⟨⟨p,.mul,p.n,p.c⟩,⟨kx_l _ _,kx_h (p) _,by trivial,by show(p.n).length<_; omega,by show(p.c).length<_; omega,by trivial⟩,⟨_,rfl⟩,?_⟩;intro r1 hr1;have kr1:=qK _ _ _ _ hr1
 iterate 2 refine⟨rfl,λ_=> ?_⟩
 refine⟨⟨p.err r1.2,.mul,p.m,p.d⟩,⟨kx_l _ _,kx_h (p.err r1.2) _,by trivial,by show(p.m).length<_; omega,by show(p.d).length<_; omega,by trivial⟩,⟨_,rfl⟩,?_⟩;intro r2 hr2;have kr2:=qK _ _ _ _ hr2;have hfin:=zf2 hc hr1 hr2;refine⟨λh=> ?_,λh=>⟨(r1.1,r2.1),⟨⟨rfl,rfl,trivial⟩,by show r1.1.length<_; omega,by show r2.1.length<_; omega⟩,⟨_,rfl⟩,?_⟩⟩
 ·have h:r2.2≠0:=by
   intro h0;have h':(!decide (r2.2=0))=true:=h;rw [h0] at h'; cases h'
  rw [aP h] at hfin;rw [<- hfin] at hq;exact RetR.scal hq rfl (by simp [resV,Pr.err])
 ·have h:r2.2=0:=by
   have h':(!decide (r2.2=0))=false:=h;cases hd:decide (r2.2=0) with
   | true=>exact aB hd
   | false=>rw [hd] at h'; cases h'
  rw [aO (by rw [h]; simp)] at hfin;rintro _ rfl;rw [<- hfin] at hq;exact RetR.scal hq rfl (by simp [resV])
noncomputable def K110:=Go.Sx.aA f110
def nanS:Ctr:=ctrP true (λs:L8=>[.str s]) (λ_=>True) (λs r=>r=false) (λ_ (r:Bool)=>(.bool r,[]))
def nanI:Ctr:=ctrP true (λx:Int=>[.i x]) (λ_=>True) (λs r=>r=false) (λ_ (r:Bool)=>(.bool r,[]))
theorem zmj:zf prog 148 nanS:=by
 refine zh' f148 λs hs O w0 Q hq=> ?_
 replace hq:=hq _ rfl;refine zc.n zH [] (.R [.bool !decide (s=s)] []) ?_;simp only [Tree.holds,zd];exact RetR.scal hq rfl (by simp [resV])
theorem zor:zf prog 149 nanI:=by
 refine zh' f149 λs hs O w0 Q hq=> ?_
 replace hq:=hq _ rfl;refine zc.n zH [] (.R [.bool !decide (s=s)] []) ?_;simp only [Tree.holds,zd];exact RetR.scal hq rfl (by simp [resV])
def zql:Ctr:=ctrP true (λp:L8×L8=>[.str p.1,.str p.2]) (λ_=>True) (λp r=>r=cmpS p.1 p.2) (λ_ (r:Int)=>(.i r,[]))
def zqy:Ctr:=ctrP true (λp:Int×Int=>[.i p.1,.i p.2]) (λ_=>True) (λp r=>r=cmpI p.1 p.2) (λ_ (r:Int)=>(.i r,[]))
noncomputable def GN2:=tb zmj (tb zor tz)
theorem zo8:zf prog 111 zql:=by
 refine zh' f111 λp hs O w0 Q hq=> ?_
 obtain⟨s,t⟩:=p;replace hq:=hq _ rfl;simp only at hq;refine zc.n GN2.h [] (.ex (λ(x:L8)=>eqL [.str s] [.str x]/\True) λn=>.all (λ(r:Bool)=>r=false) λn=>.ex (λ(x:L8)=>eqL [.str t] [.str x]/\True) λn_1=>.all (λ(r:Bool)=>r=false) λn_2=>.ite n (.ite n_2 (.R [.int .i64 0] []) (.R [.int .i64 (-1:Int)] [])) (.ite n_2 (.R [.int .i64 1] []) (.ite (Op.bytesLess s t) (.R [.int .i64 (-1:Int)] []) (.ite (!(Op.bytesLess s t||decide (s=t))) (.R [.int .i64 1] []) (.R [.int .i64 0] []))))) ?_;simp only [Tree.holds,zd];refine⟨s,⟨by simp,trivial⟩,⟨_,rfl⟩,?_⟩;rintro _ rfl;refine⟨t,⟨by simp,trivial⟩,⟨_,rfl⟩,?_⟩;rintro _ rfl;refine⟨λh=>(by cases h),λ_=>⟨λh=>(by cases h),λ_=>⟨λh=> ?_,λh=>⟨λh2=> ?_,λh2=> ?_⟩⟩⟩⟩
 ·have:cmpS s t = -1:=by simp [cmpS,h]
  rw [this] at hq; exact RetR.scal hq rfl (by simp [resV])
 ·have h2:s≠t:=by simpa [h] using h2
  have:cmpS s t=1:=by simp [cmpS,h,h2]
  rw [this] at hq; exact RetR.scal hq rfl (by simp [resV])
 ·have h2:s=t:=by simpa [h] using h2
  subst h2;have:cmpS s s=0:=by simp [cmpS,h]
  rw [this] at hq; exact RetR.scal hq rfl (by simp [resV])
theorem zo4:zf prog 112 zqy:=by
 refine zh' f112 λp hs O w0 Q hq=> ?_
 obtain⟨s,t⟩:=p;replace hq:=hq _ rfl;simp only at hq;refine zc.n GN2.h [] (.ex (q21 [.i s]) λn=>.all (λ(r:Bool)=>r=false) λn=>.ex (q21 [.i t]) λn_1=>.all (λ(r:Bool)=>r=false) λn_2=>.ite n (.ite n_2 (.R [.i 0] []) (.R [.i (-1:Int)] [])) (.ite n_2 (.R [.i 1] []) (.D (s<t) (.R [.i (-1:Int)] []) (.D (t<s) (.R [.i 1] []) (.R [.i 0] []))))) ?_;simp only [q21,Tree.holds,zd];refine⟨s,⟨by simp,trivial⟩,⟨_,rfl⟩,?_⟩;rintro _ rfl;refine⟨t,⟨by simp,trivial⟩,⟨_,rfl⟩,?_⟩;rintro _ rfl;refine⟨λh=>(by cases h),λ_=>⟨λh=>(by cases h),λ_=>⟨λh=> ?_,λh=>⟨λh2=> ?_,λh2=> ?_⟩⟩⟩⟩
 ·have h:=aB h;have:cmpI s t = -1:=by simp [cmpI,h]
  rw [this] at hq; exact RetR.scal hq rfl (by simp [resV])
 ·have h:=aC h;have h2:=aB h2;have:cmpI s t=1:=by simp [cmpI,h,h2]
  rw [this] at hq; exact RetR.scal hq rfl (by simp [resV])
 ·have h:=aC h;have h2:=aC h2;have:cmpI s t=0:=by simp [cmpI,h,h2]
  rw [this] at hq; exact RetR.scal hq rfl (by simp [resV])
def orC:Ctr:=ctrP true (λl:List Int=>[.sl l.length 1 (λj _=>.i (l.getD j 0))]) (λl=>l.length<2^40) (λl r=>r=orI l) (λ_ (r:Int)=>(.i r,[]))
def SOr(l:List Int)(i:Nat):KV:=[(3,.i 0),(6,.sl l.length 1 (λj _=>.i (l.getD j 0))),(7,.i (l.length:Int)),(8,.i (i:Int))]
theorem zu0:zf prog 110 orC:=by
 refine zh' f110 λl hl O w0 Q hq=> ?_
 replace hq:=hq _ rfl;refine zc.n zH [3,6,7,8] (.leaf (.loop (lps K110 0).1 (lps K110 0).2 [(3,.i 0),(6,.sl l.length 1 λ(j x:Nat)=>.i (l.getD j (0:Int))),(7,.i l.length),(8,.i 0)] [])) ?_;simp only [Tree.holds,zd];refine zc.loop (ι:={i:Nat // i<=l.length/\orI (l.drop i)=orI l}) (λi=>SOr l i.1) (λ_=>[]) (λi=>l.length - i.1) ⟨0,aI _,rfl⟩ 0 ?_ ?_ (by kernel_rfl)
 ·exact⟨by simp [SOr,za],by simp,by kernel_rfl,aI _⟩
 ·rintro⟨i,hil,hio⟩;refine zc.n zH [3,6,7,8] (.D ((i:Int)<l.length) (.side ((0:Int)<=i/\(i:Int)<l.length) (.N (l.getD (i:Int).toNat (0:Int)=0) (.R [.i (l.getD (i:Int).toNat (0:Int))] []) (.S (i+1) (.leaf (.back 0 [(3,.i 0),(6,.sl l.length 1 λ(j x:Nat)=>.i (l.getD j (0:Int))),(7,.i l.length),(8,.i (i+1))] []))))) (.R [.i 0] [])) ?_;simp only [Tree.holds,zd,inR,lo,hi,aD];refine⟨λhlt=> ?_,λhge=> ?_⟩
  ·have hlt:i<l.length:=by have:=aB hlt; omega
   have hd:l.drop i=l.getD i 0::l.drop (i+1):=by
    rw [List.drop_eq_getElem_cons hlt]; simp [List.getD,hlt]
   rw [hd] at hio;refine⟨by omega,λ_=>⟨λh=> ?_,λh=>⟨by omega,λ_=> ?_⟩⟩⟩
   ·have h:l.getD i 0≠0:=by simpa using h
    have:orI l=l.getD i 0:=by rw [<- hio]; simp only [orI]; rw [aO h]
    rw [this] at hq; exact RetR.scal hq rfl (by simp [resV])
   ·have h:l.getD i 0=0:=by simpa using h
    rw [aP trivial];refine⟨⟨i+1,hlt,?_⟩,by show l.length - (i+1)<l.length - i; omega,by simp [SOr,za],by simp,by kernel_rfl,aI _⟩;rw [<- hio]; simp only [orI]; rw [aP h]
  ·have hge:i=l.length:=by have:=aC hge; omega
   subst hge;rw [List.drop_length] at hio;rw [<- hio] at hq; exact RetR.scal hq rfl (by simp [resV,orI])
def Wl:Ctr:=ctrP true (λp:Fx×Fx=>[p.1.av,p.2.av]) (λ_=>True) (λp r=>r=cmpF p.1 p.2) (λ_ (r:Int)=>(.i r,[]))
def WH:Ctr:=ctrP true (λp:Ch×Ch=>[p.1.av,p.2.av]) (λ_=>True) (λp r=>r=cmpC p.1 p.2) (λ_ (r:Int)=>(.i r,[]))
noncomputable def GN3:=tb zo8 (tb zo4 (tb zu0 tz))
theorem zep(x y:Int):eqG 2 1 (zg (zi 1 [.i x,.i y]) 0) (λj _=>.i ([x,y].getD j 0)):=by
 intro j o hj ho;have ho:o=0:=by omega
 subst ho;rcases j with _ | _ | j
 ·rfl
 ·rfl
 ·omega
theorem zfu(x y z:Int):eqG 3 1 (zg (zi 1 [.i x,.i y,.i z]) 0) (λj _=>.i ([x,y,z].getD j 0)):=by
 intro j o hj ho;have ho:o=0:=by omega
 subst ho;rcases j with _ | _ | _ | j
 ·rfl
 ·rfl
 ·rfl
 ·omega
abbrev q46(A:List AV)(x:Int×Int):Prop:=eqL A [.i x.1,.i x.2]/\True
abbrev q45(A:List AV)(x:L8×L8):Prop:=eqL A [.str x.1,.str x.2]/\True
theorem JJ:zf prog 74 Wl:=by
 refine zh' f74 λp hs O w0 Q hq=> ?_
 obtain⟨⟨a,d,v⟩,⟨b,e,u⟩⟩:=p;replace hq:=hq _ rfl;simp only at hq;refine zc.n GN3.h [] (.ex (q45 [.str a,.str b]) λn=>.all (λ(r:Int)=>r=cmpS n.1 n.2) λn=>.ex (q46 [.i d,.i e]) λn_1=>.all (λ(r:Int)=>r=cmpI n_1.1 n_1.2) λn_2=>.ex (λ(x:List Int)=>eqL [.sl 2 1 (zg (zi 1 [.i n,.i n_2]) 0)] [.sl x.length 1 λ(j x_1:Nat)=>AV.i (x.getD j (0:Int))]/\x.length<1099511627776) λn_3=>.all (λ(r:Int)=>r=orI n_3) λn_4=>.R [.i n_4] [.box [.str a,.i d,.str v],.box [.str b,.i e,.str u],.arr 2 1 (zi 1 [.i n,.i n_2])]) ?_;simp only [q45,q46,Tree.holds,zd];refine⟨(a,b),⟨by simp,trivial⟩,⟨_,rfl⟩,?_⟩;rintro _ rfl;refine⟨(d,e),⟨by simp,trivial⟩,⟨_,rfl⟩,?_⟩;rintro _ rfl;refine⟨[cmpS a b,cmpI d e],⟨⟨⟨rfl,rfl,zep _ _⟩,trivial⟩,by simp⟩,⟨_,rfl⟩,?_⟩;rintro _ rfl
 have:orI [cmpS a b,cmpI d e]=cmpF ⟨a,d,v⟩ ⟨b,e,u⟩:=by
  simp only [orI,cmpF];by_cases h:cmpS a b=0
  ·simp only [h,if_true]; split<;>simp_all
  ·simp only [aO h]
 rw [this];exact RetR.scal hq rfl (by simp [resV])
theorem WC:zf prog 76 WH:=by
 refine zh' f76 λp hs O w0 Q hq=> ?_
 obtain⟨⟨a,d,v,f⟩,⟨b,e,u,g⟩⟩:=p;replace hq:=hq _ rfl;simp only at hq;refine zc.n GN3.h [] (.ex (q45 [.str a,.str b]) λn=>.all (λ(r:Int)=>r=cmpS n.1 n.2) λn=>.ex (q45 [.str d,.str e]) λn_1=>.all (λ(r:Int)=>r=cmpS n_1.1 n_1.2) λn_2=>.ex (q46 [.i v,.i u]) λn_3=>.all (λ(r:Int)=>r=cmpI n_3.1 n_3.2) λn_4=>.ex (λ(x:List Int)=>eqL [.sl 3 1 (zg (zi 1 [.i n,.i n_2,.i n_4]) 0)] [.sl x.length 1 λ(j x_1:Nat)=>AV.i (x.getD j (0:Int))]/\x.length<1099511627776) λn_5=>.all (λ(r:Int)=>r=orI n_5) λn_6=>.R [.i n_6] [.box [.str a,.str d,.i v,.bool f],.box [.str b,.str e,.i u,.bool g],.arr 3 1 (zi 1 [.i n,.i n_2,.i n_4])]) ?_;simp only [q45,q46,Tree.holds,zd];refine⟨(a,b),⟨by simp,trivial⟩,⟨_,rfl⟩,?_⟩;rintro _ rfl;refine⟨(d,e),⟨by simp,trivial⟩,⟨_,rfl⟩,?_⟩;rintro _ rfl;refine⟨(v,u),⟨by simp,trivial⟩,⟨_,rfl⟩,?_⟩;rintro _ rfl;refine⟨[cmpS a b,cmpS d e,cmpI v u],⟨⟨⟨rfl,rfl,zfu _ _ _⟩,trivial⟩,by simp⟩,⟨_,rfl⟩,?_⟩;rintro _ rfl
 have:orI [cmpS a b,cmpS d e,cmpI v u]=cmpC ⟨a,d,v,f⟩ ⟨b,e,u,g⟩:=by
  simp only [orI,cmpC];by_cases h:cmpS a b=0
  ·simp only [h,if_true];by_cases h2:cmpS d e=0
   ·simp only [h2,if_true]; split<;>simp_all
   ·simp only [aO h2]
  ·simp only [aO h]
 rw [this];exact RetR.scal hq rfl (by simp [resV])
end Go.Proofs.Tryz
end
