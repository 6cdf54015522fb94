/- Part 7 of the proof. -/
import Derived.Test.YtfiocgnojggdjaaGreatDoorSxf
import Derived.DefersIn
set_option linter.unusedVariables false
set_option linter.unusedSimpArgs false
set_option linter.unusedSectionVars false
section
set_option maxRecDepth 100000
open Go Go.Sx Go.Proofs Go.Nov
namespace Go.Proofs.Tryz
attribute [local simp] eqKV eqA eqA0 eqH eqB eqL eqL0
structure XEx where
 x:Ex
 s:RS
 day:Int
 f:List Fx
 c:List Ch
def XEx.pre(p:XEx):Prop:=(p.x.zx=1/\(p.x.ev p.f p.day).e=0/\p.x.size<=500/\p.x.depth<=60/\p.x.zA<2^40)/\errE p.f p.c=0/\dayB p.day=true/\envP (p.f,p.c)/\p.s.ops.length+p.x.size<2^38/\p.s.inp.length+p.x.size<2^38
def brxC(n:Nat):Ctr:=ctrM 1 (λp:XEx=>[.ptr 0 0,p.x.exA]) (λp=>HRc p.s p.day p.f p.c) (λp=>p.x.size<n/\p.pre) (λ_ (_:Unit)=>True)
 (λp _=>(.i (((p.x.rc p.f p.day p.s).ops.length:Int) - 1),HRc (p.x.rc p.f p.day p.s) p.day p.f p.c))
noncomputable def GBx0:=tb YZ (tb zfv (tb zb3 (tb ZE (tb Uy tz))))
noncomputable def GBx(n:Nat):Nat->Option Ctr:=λf=>if f=29 then some (brxC n) else GBx0.g f
theorem QD{n:Nat}(ih:zc prog 29 (brxC n)):∀ g c,GBx n g=some c->zc prog g c:=λg c h=>by
 unfold GBx at h;split at h
 ·rename_i e; cases h; subst e; exact ih
 ·exact GBx0.h g c h
theorem zcx{a b:Bool}{T F G:Prop}(h:a=true\/b=true->T)(g:a=false->b=false->F):(a=true->(a=true->T)/\(a=false->G))/\(a=false->(b=true->T)/\(b=false->F)):=⟨λe=>⟨λ_=>h (.inl e),λe2=>by rw [e] at e2; cases e2⟩,λe=>⟨λe2=>h (.inr e2),λe2=>g e e2⟩⟩
noncomputable def LBx:List Go.Sx.Item:=yk 6 (f29.body.getD .skip)
def SBx1:KV:=[(0,.ptr 0 0),(3,.ptr 4 0)]
def SBx2(k:Int):KV:=[(0,.ptr 0 0),(3,.ptr 4 0),(13,.int .u8 (k - 1))]
def HBx(k d day:Int)(r nm:L8)(sub:List Ex)(s:RS)(f:List Fx)(c:List Ch):Heap:=HRc s day f c++[.box [.int .u8 k,.str r,.str nm,.i d,.sl sub.length 5 (Ex.exG sub)]]
abbrev q42(A:List AV)(x:VI):Prop:=eqL A [.agg [.int .u8 x.x.kind,.str x.x.rat,.str x.x.name,.i x.x.date,.sl x.x.sub.length 5 (Ex.exG x.x.sub)],.i x.day,.agg [.sl x.f.length 3 (fxG x.f),.sl x.c.length 4 (chG x.c)]]/\VI.ok x
theorem zf4(n:Nat)(ih:zc prog 29 (brxC n)):zc prog 29 (brxC (n+1)):=by
 refine Wy (fn:=f29) (c:=f29.body.getD .skip) rfl rfl rfl λp hp O w0 I0 Q hl0 hq=> ?_
 obtain⟨⟨k,r,nm,d,sub⟩,⟨ops,inp⟩,day,f,c⟩:=p;obtain⟨h0,⟨h1,h2,h3,h4,h5⟩,h6,h7,h8,h9,h10⟩:=hp;replace hq:=hq () trivial;simp only at h0 h1 h2 h3 h4 h5 h6 h7 h8 h9 h10 hq;have hnc:=Ex.xE h1;simp only [Ex.kind,Ex.rat,Ex.sub] at hnc
 have dle:∀ {i:Nat},i<sub.length->(sub.getD i Ex.nil).size<(Ex.mk k r nm d sub).size/\(sub.getD i Ex.nil).depth<=60/\(sub.getD i Ex.nil).zA<2^40:=λ{i} hi=>by
  have a1:=vZ (x:=Ex.mk k r nm d sub) (i:=i) hi;have a2:=Ex.ua (Ex.mk k r nm d sub);have a3:=Ex.Xj (s:=sub) hi;have a4:=Ex.xI (Ex.mk k r nm d sub);have a5:=Ex.yg (s:=sub) hi;simp only [Ex.sub] at a1 a2 a4;omega
 have nml:nm.length<2^40:=by have:=Ex.xI (Ex.mk k r nm d sub); simp only [Ex.name] at this; omega
 have evX:((Ex.mk k r nm d sub).ev f day).e=(valN f day k r nm d (Ex.evs f day sub)).2:=(ev_v f day (Ex.mk k r nm d sub)).2;have rcX:(Ex.mk k r nm d sub).rc f day=rcN f day k r nm d (Ex.evs f day sub) (Ex.rcs f day sub):=Ex.zdx f day (Ex.mk k r nm d sub);have gE:∀ {i:Nat},i<sub.length->(Ex.evs f day sub).getD i Ev.nil=(sub.getD i Ex.nil).ev f day:=λh=>Ex.zT h
 have gR:∀ {i:Nat},i<sub.length->(Ex.rcs f day sub).getD i id=(sub.getD i Ex.nil).rc f day:=λh=>Ex.x9 h
 rw [evX] at h2;have hf:f.all okF=true:=(uS.1 h6).2.1
 have pre:∀ {i:Nat},i<sub.length->(sub.getD i Ex.nil).zx=1->((sub.getD i Ex.nil).ev f day).e=0->∀ s:RS,s.ops.length<=ops.length+(Ex.mk k r nm d sub).size - (sub.getD i Ex.nil).size->s.inp.length<=inp.length+(Ex.mk k r nm d sub).size - (sub.getD i Ex.nil).size->(sub.getD i Ex.nil).size<n/\XEx.pre ⟨sub.getD i Ex.nil,s,day,f,c⟩:=λ{i} hi g0 g1 s g2 g3=>by
  have:=dle hi;refine⟨by omega,⟨g0,g1,by show(sub.getD i Ex.nil).size<=500; omega,this.2.1,this.2.2⟩,h6,h7,h8,?_,?_⟩
  ·show s.ops.length+(sub.getD i Ex.nil).size<_; omega
  ·show s.inp.length+(sub.getD i Ex.nil).size<_; omega
 have heq:∀ k:Int,eqH (HBx k d day r nm sub ⟨ops,inp⟩ f c) (HBx k d day r nm sub ⟨ops,inp⟩ f c):=λk=>by simp [HBx,HRc,fxS,chS,za]
 refine zb.spine 6 ?_;refine zb.cutL (ι:={u:Unit // (4<=k/\k<=6)/\sub.length=2/\(sub.getD 0 Ex.nil).zx=1/\(sub.getD 1 Ex.nil).zx=1}) LBx 2 0 (λ_=>SBx1) (λ_=>HBx k d day r nm sub ⟨ops,inp⟩ f c) (by kernel_rfl) (by kernel_rfl) ?_ λ⟨_,hk,hl,s0,s1⟩=> ?_
 ·refine zb.n (QD ih) [0,3] (let v23:List AV:=[.i 0,.osl 1 4 0 ops.length,.osl 2 3 0 inp.length,.omap 3,.i day,.sl f.length 3 (fxG f),.sl c.length 4 (chG c)];let v18:=[AV.sl f.length 3 (fxG f),AV.sl c.length 4 (chG c)];let v5:=[AV.i 0,AV.osl 1 4 0 ops.length,AV.osl 2 3 0 inp.length,AV.omap 3,AV.i day,AV.sl f.length 3 (fxG f),AV.sl c.length 4 (chG c)];let v1:=Ex.mk k r nm d sub;let v40:=decide (Ex.kind v1=(8:Int));let v22:=List.getD (Ex.sub v1) 2 Ex.nil;let v21:=List.getD (Ex.sub v1) 0 Ex.nil;let v20:=List.getD (Ex.sub v1) 1 Ex.nil;let v4:List AV:=[.int .u8 (Ex.kind v1),.str (Ex.rat v1),.str (Ex.name v1),.i (Ex.date v1),.sl (List.length (Ex.sub v1)) 5 (Ex.exG (Ex.sub v1))];let v3:=[AV.int .u8 (Ex.kind v20),AV.str (Ex.rat v20),AV.str (Ex.name v20),AV.i (Ex.date v20),AV.sl (List.length (Ex.sub v20)) 5 (Ex.deep v20)];let v44:=q42 [.agg v3,.i day,.agg v18];let v25:=[AV.ptr 0 0,AV.agg v3];let v2:=[AV.int .u8 (Ex.kind v21),AV.str (Ex.rat v21),AV.str (Ex.name v21),AV.i (Ex.date v21),AV.sl (List.length (Ex.sub v21)) 5 (Ex.deep v21)];let v39:=[AV.ptr 0 0,AV.agg v2];let v24:=q42 [.agg v2,.i day,.agg v18];.D (Ex.kind v1=(1:Int)) (.ex (λ(x:XRc)=>let v41:=RS.ops x.s;let v28:=RS.inp x.s;eqL [.ptr 0 0,.agg [.int .u8 2,.i 0,.i 0,.str (Ex.rat v1)]] [.ptr 0 0,.agg [.int .u8 x.o.kind,.i x.o.a,.i x.o.b,.str x.o.rat]]/\eqH [.box v5,.arr ops.length 4 (opG ops),.arr inp.length 3 (fxG inp),Blk.map true [Sum.inr false,Sum.inl .i64] (λ(k:List Sc)=>List.any inp λ(x:Fx)=>decide (k=[Sum.inr x.name,Sum.inl x.date])) λk=>AV.int .i64 ↑(List.findIdx (λ(x:Fx)=>decide (k=[Sum.inr x.name,Sum.inl x.date])) inp)] [.box [.i 0,.osl 1 4 0 (List.length v41),.osl 2 3 0 (List.length v28),AV.omap 3,.i x.day,.sl x.f.length 3 (fxG x.f),.sl x.c.length 4 (chG x.c)],.arr (List.length v41) 4 (opG v41),.arr (List.length v28) 3 (fxG v28),Blk.map true [Sum.inr false,Sum.inl .i64] (λ(k:List Sc)=>List.any v28 λx=>decide (k=[Sum.inr x.name,Sum.inl x.date])) λk=>AV.int .i64 ↑(List.findIdx (λ(x:Fx)=>decide (k=[Sum.inr x.name,Sum.inl x.date])) v28)]/\4=4/\List.length v41 <1099511627776) λn=>let v19:=RS.put n.s n.o;let v45:=RS.inp v19;.A λn_1=>.R [.int .i64 ↑(List.length n.s.ops)] [.box [.i 0,.osl 1 4 0 (List.length v19.ops),.osl 2 3 0 (List.length v45),.omap 3,.i n.day,.sl n.f.length 3 (fxG n.f),.sl n.c.length 4 (chG n.c)],.arr (List.length v19.ops) 4 (opG v19.ops),.arr (List.length v45) 3 (fxG v45),Blk.map true [Sum.inr false,Sum.inl .i64] (λ(k:List Sc)=>List.any v45 λx=>decide (k=[Sum.inr x.name,Sum.inl x.date])) λk=>.int .i64 ↑(List.findIdx (λ(x:Fx)=>decide (k=[Sum.inr x.name,Sum.inl x.date])) v45),.box v4]) (.D (Ex.kind v1=(2:Int)) (.ex (λ(x:XFi)=>let v42:=RS.ops x.s;let v26:=RS.inp x.s;eqL [.ptr 0 0,.str (Ex.name v1),.i (Ex.date v1)] [.ptr 0 0,.str x.n,.i x.d]/\eqH [.box v5,.arr ops.length 4 (opG ops),.arr inp.length 3 (fxG inp),Blk.map true [Sum.inr false,Sum.inl .i64] (λ(k:List Sc)=>List.any inp λ(x:Fx)=>decide (k=[Sum.inr x.name,Sum.inl x.date])) λk=>AV.int .i64 ↑(List.findIdx (λ(x:Fx)=>decide (k=[Sum.inr x.name,Sum.inl x.date])) inp)] [.box [.i 0,.osl 1 4 0 (List.length v42),.osl 2 3 0 (List.length v26),AV.omap 3,.i x.day,.sl x.f.length 3 (fxG x.f),.sl x.c.length 4 (chG x.c)],.arr (List.length v42) 4 (opG v42),.arr (List.length v26) 3 (fxG v26),Blk.map true [Sum.inr false,Sum.inl .i64] (λ(k:List Sc)=>List.any v26 λx=>decide (k=[Sum.inr x.name,Sum.inl x.date])) λk=>AV.int .i64 ↑(List.findIdx (λ(x:Fx)=>decide (k=[Sum.inr x.name,Sum.inl x.date])) v26)]/\4=4/\List.length v42 <549755813888/\List.length v26 <549755813888/\List.length x.f<1099511627776/\List.length x.n<1099511627776) λn=>let v16:=RS.fix n.f n.n n.d n.s;let v46:=RS.inp v16;.A λn_1=>.R [.int .i64 ↑(List.length n.s.ops)] [.box [.i 0,.osl 1 4 0 (List.length v16.ops),.osl 2 3 0 (List.length v46),.omap 3,.i n.day,.sl n.f.length 3 (fxG n.f),.sl n.c.length 4 (chG n.c)],.arr (List.length v16.ops) 4 (opG v16.ops),.arr (List.length v46) 3 (fxG v46),Blk.map true [Sum.inr false,Sum.inl .i64] (λ(k:List Sc)=>List.any v46 λx=>decide (k=[Sum.inr x.name,Sum.inl x.date])) λk=>.int .i64 ↑(List.findIdx (λ(x:Fx)=>decide (k=[Sum.inr x.name,Sum.inl x.date])) v46),.box v4]) (.D (Ex.kind v1=(3:Int)) (.ex (λ(x:XFi)=>let v43:=RS.ops x.s;let v27:=RS.inp x.s;eqL [.ptr 0 0,.str (Ex.name v1),.i day] [.ptr 0 0,.str x.n,.i x.d]/\eqH [.box v5,.arr ops.length 4 (opG ops),.arr inp.length 3 (fxG inp),Blk.map true [Sum.inr false,Sum.inl .i64] (λ(k:List Sc)=>List.any inp λ(x:Fx)=>decide (k=[Sum.inr x.name,Sum.inl x.date])) λk=>AV.int .i64 ↑(List.findIdx (λ(x:Fx)=>decide (k=[Sum.inr x.name,Sum.inl x.date])) inp)] [.box [.i 0,.osl 1 4 0 (List.length v43),.osl 2 3 0 (List.length v27),AV.omap 3,.i x.day,.sl x.f.length 3 (fxG x.f),.sl x.c.length 4 (chG x.c)],.arr (List.length v43) 4 (opG v43),.arr (List.length v27) 3 (fxG v27),Blk.map true [Sum.inr false,Sum.inl .i64] (λ(k:List Sc)=>List.any v27 λx=>decide (k=[Sum.inr x.name,Sum.inl x.date])) λk=>AV.int .i64 ↑(List.findIdx (λ(x:Fx)=>decide (k=[Sum.inr x.name,Sum.inl x.date])) v27)]/\4=4/\List.length v43 <549755813888/\List.length v27 <549755813888/\List.length x.f<1099511627776/\List.length x.n<1099511627776) λn=>let v17:=RS.fix n.f n.n n.d n.s;let v47:=RS.inp v17;.A λn_1=>.R [.int .i64 ↑(List.length n.s.ops)] [.box [.i 0,.osl 1 4 0 (List.length v17.ops),.osl 2 3 0 (List.length v47),.omap 3,.i n.day,.sl n.f.length 3 (fxG n.f),.sl n.c.length 4 (chG n.c)],.arr (List.length v17.ops) 4 (opG v17.ops),.arr (List.length v47) 3 (fxG v47),Blk.map true [Sum.inr false,Sum.inl .i64] (λ(k:List Sc)=>List.any v47 λx=>decide (k=[Sum.inr x.name,Sum.inl x.date])) λk=>.int .i64 ↑(List.findIdx (λ(x:Fx)=>decide (k=[Sum.inr x.name,Sum.inl x.date])) v47),.box v4]) (.D (Ex.kind v1=(9:Int)) (.side ((0:Int)<=0/\(0:Int)<(↑(List.length (Ex.sub v1)):Int)) (.ex v24 λn_1=>.all (λ(r:Bool×Int)=>r=uj n_1.x n_1.day n_1.f n_1.c) λn_2=>.ite n_2.1 (.side ((0:Int)<=1/\(1:Int)<(↑(List.length (Ex.sub v1)):Int)) (.ex (λ(x:XEx)=>let v54:=RS.ops x.s;let v29:=RS.inp x.s;eqL v25 [.ptr 0 0,.agg [.int .u8 (Ex.kind x.x),.str (Ex.rat x.x),.str (Ex.name x.x),.i (Ex.date x.x),.sl (List.length (Ex.sub x.x)) 5 (Ex.exG (Ex.sub x.x))]]/\eqH [.box v5,.arr ops.length 4 (opG ops),.arr inp.length 3 (fxG inp),Blk.map true [Sum.inr false,Sum.inl .i64] (λ(k:List Sc)=>List.any inp λ(x:Fx)=>decide (k=[Sum.inr x.name,Sum.inl x.date])) λk=>AV.int .i64 ↑(List.findIdx (λ(x:Fx)=>decide (k=[Sum.inr x.name,Sum.inl x.date])) inp)] [.box [.i 0,.osl 1 4 0 (List.length v54),.osl 2 3 0 (List.length v29),AV.omap 3,.i x.day,.sl x.f.length 3 (fxG x.f),.sl x.c.length 4 (chG x.c)],.arr (List.length v54) 4 (opG v54),.arr (List.length v29) 3 (fxG v29),Blk.map true [Sum.inr false,Sum.inl .i64] (λ(k:List Sc)=>List.any v29 λx=>decide (k=[Sum.inr x.name,Sum.inl x.date])) λk=>AV.int .i64 ↑(List.findIdx (λ(x:Fx)=>decide (k=[Sum.inr x.name,Sum.inl x.date])) v29)]/\4=4/\Ex.size x.x<n/\XEx.pre x) λn=>let v6:=Ex.rc n.f n.day n.x n.s;.A λn_3=>.R [.i ((↑(List.length v6.ops):Int) - (1:Int))] [.box [.i 0,.osl 1 4 0 (List.length v6.ops),.osl 2 3 0 (List.length v6.inp),.omap 3,.i n.day,.sl n.f.length 3 (fxG n.f),.sl n.c.length 4 (chG n.c)],.arr (List.length v6.ops) 4 (opG v6.ops),.arr (List.length v6.inp) 3 (fxG v6.inp),Blk.map true [Sum.inr false,Sum.inl .i64] (λ(k:List Sc)=>List.any v6.inp λx=>decide (k=[Sum.inr x.name,Sum.inl x.date])) λk=>.int .i64 ↑(List.findIdx (λ(x:Fx)=>decide (k=[Sum.inr x.name,Sum.inl x.date])) v6.inp),.box v4])) (.side ((0:Int)<=2/\(2:Int)<(↑(List.length (Ex.sub v1)):Int)) (.ex (λ(x:XEx)=>let v55:=RS.ops x.s;let v30:=RS.inp x.s;eqL [.ptr 0 0,.agg [.int .u8 (Ex.kind v22),.str (Ex.rat v22),.str (Ex.name v22),.i (Ex.date v22),.sl (List.length (Ex.sub v22)) 5 (Ex.deep v22)]] [.ptr 0 0,.agg [.int .u8 (Ex.kind x.x),.str (Ex.rat x.x),.str (Ex.name x.x),.i (Ex.date x.x),.sl (List.length (Ex.sub x.x)) 5 (Ex.exG (Ex.sub x.x))]]/\eqH [.box v5,.arr ops.length 4 (opG ops),.arr inp.length 3 (fxG inp),Blk.map true [Sum.inr false,Sum.inl .i64] (λ(k:List Sc)=>List.any inp λ(x:Fx)=>decide (k=[Sum.inr x.name,Sum.inl x.date])) λk=>AV.int .i64 ↑(List.findIdx (λ(x:Fx)=>decide (k=[Sum.inr x.name,Sum.inl x.date])) inp)] [.box [.i 0,.osl 1 4 0 (List.length v55),.osl 2 3 0 (List.length v30),AV.omap 3,.i x.day,.sl x.f.length 3 (fxG x.f),.sl x.c.length 4 (chG x.c)],.arr (List.length v55) 4 (opG v55),.arr (List.length v30) 3 (fxG v30),Blk.map true [Sum.inr false,Sum.inl .i64] (λ(k:List Sc)=>List.any v30 λx=>decide (k=[Sum.inr x.name,Sum.inl x.date])) λk=>AV.int .i64 ↑(List.findIdx (λ(x:Fx)=>decide (k=[Sum.inr x.name,Sum.inl x.date])) v30)]/\4=4/\Ex.size x.x<n/\XEx.pre x) λn=>let v7:=Ex.rc n.f n.day n.x n.s;.A λn_3=>.R [.i ((↑(List.length v7.ops):Int) - (1:Int))] [.box [.i 0,.osl 1 4 0 (List.length v7.ops),.osl 2 3 0 (List.length v7.inp),.omap 3,.i n.day,.sl n.f.length 3 (fxG n.f),.sl n.c.length 4 (chG n.c)],.arr (List.length v7.ops) 4 (opG v7.ops),.arr (List.length v7.inp) 3 (fxG v7.inp),Blk.map true [Sum.inr false,Sum.inl .i64] (λ(k:List Sc)=>List.any v7.inp λx=>decide (k=[Sum.inr x.name,Sum.inl x.date])) λk=>.int .i64 ↑(List.findIdx (λ(x:Fx)=>decide (k=[Sum.inr x.name,Sum.inl x.date])) v7.inp),.box v4])))) (.D (Ex.kind v1=(7:Int)) (.D (Ex.kind v1=(7:Int)) (.side ((0:Int)<=0/\(0:Int)<(↑(List.length (Ex.sub v1)):Int)) (.ex v24 λn_1=>.all (λ(r:L8×Int)=>r=zW n_1.x n_1.day n_1.f n_1.c) λn_2=>.side ((0:Int)<=1/\(1:Int)<(↑(List.length (Ex.sub v1)):Int)) (.ex v44 λn_3=>.all (λ(r:L8×Int)=>r=zW n_3.x n_3.day n_3.f n_3.c) λn_4=>.ex (q36 [.str n_2.1,.str n_4.1]) λn_5=>.all (λ(r:Int×Int)=>r=cmpR n_5.1 n_5.2) λn_6=>.ite v40 (.S (-Prod.fst n_6) (.D ((0:Int) <= -Prod.fst n_6) (.side ((0:Int)<=0/\(0:Int)<(↑(List.length (Ex.sub v1)):Int)) (.ex (λ(x:XEx)=>let v56:=RS.ops x.s;let v31:=RS.inp x.s;eqL v39 [.ptr 0 0,.agg [.int .u8 (Ex.kind x.x),.str (Ex.rat x.x),.str (Ex.name x.x),.i (Ex.date x.x),.sl (List.length (Ex.sub x.x)) 5 (Ex.exG (Ex.sub x.x))]]/\eqH [.box v5,.arr ops.length 4 (opG ops),.arr inp.length 3 (fxG inp),Blk.map true [Sum.inr false,Sum.inl .i64] (λ(k:List Sc)=>List.any inp λ(x:Fx)=>decide (k=[Sum.inr x.name,Sum.inl x.date])) λk=>AV.int .i64 ↑(List.findIdx (λ(x:Fx)=>decide (k=[Sum.inr x.name,Sum.inl x.date])) inp)] [.box [.i 0,.osl 1 4 0 (List.length v56),.osl 2 3 0 (List.length v31),AV.omap 3,.i x.day,.sl x.f.length 3 (fxG x.f),.sl x.c.length 4 (chG x.c)],.arr (List.length v56) 4 (opG v56),.arr (List.length v31) 3 (fxG v31),Blk.map true [Sum.inr false,Sum.inl .i64] (λ(k:List Sc)=>List.any v31 λx=>decide (k=[Sum.inr x.name,Sum.inl x.date])) λk=>AV.int .i64 ↑(List.findIdx (λ(x:Fx)=>decide (k=[Sum.inr x.name,Sum.inl x.date])) v31)]/\4=4/\Ex.size x.x<n/\XEx.pre x) λn=>let v8:=Ex.rc n.f n.day n.x n.s;.A λn_7=>.R [.i ((↑(List.length v8.ops):Int) - (1:Int))] [.box [.i 0,.osl 1 4 0 (List.length v8.ops),.osl 2 3 0 (List.length v8.inp),.omap 3,.i n.day,.sl n.f.length 3 (fxG n.f),.sl n.c.length 4 (chG n.c)],.arr (List.length v8.ops) 4 (opG v8.ops),.arr (List.length v8.inp) 3 (fxG v8.inp),Blk.map true [Sum.inr false,Sum.inl .i64] (λ(k:List Sc)=>List.any v8.inp λx=>decide (k=[Sum.inr x.name,Sum.inl x.date])) λk=>.int .i64 ↑(List.findIdx (λ(x:Fx)=>decide (k=[Sum.inr x.name,Sum.inl x.date])) v8.inp),.box v4])) (.side ((0:Int)<=1/\(1:Int)<(↑(List.length (Ex.sub v1)):Int)) (.ex (λ(x:XEx)=>let v57:=RS.ops x.s;let v32:=RS.inp x.s;eqL v25 [.ptr 0 0,.agg [.int .u8 (Ex.kind x.x),.str (Ex.rat x.x),.str (Ex.name x.x),.i (Ex.date x.x),.sl (List.length (Ex.sub x.x)) 5 (Ex.exG (Ex.sub x.x))]]/\eqH [.box v5,.arr ops.length 4 (opG ops),.arr inp.length 3 (fxG inp),Blk.map true [Sum.inr false,Sum.inl .i64] (λ(k:List Sc)=>List.any inp λ(x:Fx)=>decide (k=[Sum.inr x.name,Sum.inl x.date])) λk=>AV.int .i64 ↑(List.findIdx (λ(x:Fx)=>decide (k=[Sum.inr x.name,Sum.inl x.date])) inp)] [.box [.i 0,.osl 1 4 0 (List.length v57),.osl 2 3 0 (List.length v32),AV.omap 3,.i x.day,.sl x.f.length 3 (fxG x.f),.sl x.c.length 4 (chG x.c)],.arr (List.length v57) 4 (opG v57),.arr (List.length v32) 3 (fxG v32),Blk.map true [Sum.inr false,Sum.inl .i64] (λ(k:List Sc)=>List.any v32 λx=>decide (k=[Sum.inr x.name,Sum.inl x.date])) λk=>AV.int .i64 ↑(List.findIdx (λ(x:Fx)=>decide (k=[Sum.inr x.name,Sum.inl x.date])) v32)]/\4=4/\Ex.size x.x<n/\XEx.pre x) λn=>let v9:=Ex.rc n.f n.day n.x n.s;.A λn_7=>.R [.i ((↑(List.length v9.ops):Int) - (1:Int))] [.box [.i 0,.osl 1 4 0 (List.length v9.ops),.osl 2 3 0 (List.length v9.inp),.omap 3,.i n.day,.sl n.f.length 3 (fxG n.f),.sl n.c.length 4 (chG n.c)],.arr (List.length v9.ops) 4 (opG v9.ops),.arr (List.length v9.inp) 3 (fxG v9.inp),Blk.map true [Sum.inr false,Sum.inl .i64] (λ(k:List Sc)=>List.any v9.inp λx=>decide (k=[Sum.inr x.name,Sum.inl x.date])) λk=>.int .i64 ↑(List.findIdx (λ(x:Fx)=>decide (k=[Sum.inr x.name,Sum.inl x.date])) v9.inp),.box v4])))) (.D ((0:Int)<=n_6.1) (.side ((0:Int)<=0/\(0:Int)<(↑(List.length (Ex.sub v1)):Int)) (.ex (λ(x:XEx)=>let v58:=RS.ops x.s;let v33:=RS.inp x.s;eqL v39 [.ptr 0 0,.agg [.int .u8 (Ex.kind x.x),.str (Ex.rat x.x),.str (Ex.name x.x),.i (Ex.date x.x),.sl (List.length (Ex.sub x.x)) 5 (Ex.exG (Ex.sub x.x))]]/\eqH [.box v5,.arr ops.length 4 (opG ops),.arr inp.length 3 (fxG inp),Blk.map true [Sum.inr false,Sum.inl .i64] (λ(k:List Sc)=>List.any inp λ(x:Fx)=>decide (k=[Sum.inr x.name,Sum.inl x.date])) λk=>AV.int .i64 ↑(List.findIdx (λ(x:Fx)=>decide (k=[Sum.inr x.name,Sum.inl x.date])) inp)] [.box [.i 0,.osl 1 4 0 (List.length v58),.osl 2 3 0 (List.length v33),AV.omap 3,.i x.day,.sl x.f.length 3 (fxG x.f),.sl x.c.length 4 (chG x.c)],.arr (List.length v58) 4 (opG v58),.arr (List.length v33) 3 (fxG v33),Blk.map true [Sum.inr false,Sum.inl .i64] (λ(k:List Sc)=>List.any v33 λx=>decide (k=[Sum.inr x.name,Sum.inl x.date])) λk=>AV.int .i64 ↑(List.findIdx (λ(x:Fx)=>decide (k=[Sum.inr x.name,Sum.inl x.date])) v33)]/\4=4/\Ex.size x.x<n/\XEx.pre x) λn=>let v10:=Ex.rc n.f n.day n.x n.s;let v64:=RS.ops v10;let v48:=RS.inp v10;.A λn_7=>.R [.i ((↑(List.length v64):Int) - (1:Int))] [.box [.i 0,.osl 1 4 0 (List.length v64),.osl 2 3 0 (List.length v48),.omap 3,.i n.day,.sl n.f.length 3 (fxG n.f),.sl n.c.length 4 (chG n.c)],.arr (List.length v64) 4 (opG v64),.arr (List.length v48) 3 (fxG v48),Blk.map true [Sum.inr false,Sum.inl .i64] (λ(k:List Sc)=>List.any v48 λx=>decide (k=[Sum.inr x.name,Sum.inl x.date])) λk=>.int .i64 ↑(List.findIdx (λ(x:Fx)=>decide (k=[Sum.inr x.name,Sum.inl x.date])) v48),.box v4])) (.side ((0:Int)<=1/\(1:Int)<(↑(List.length (Ex.sub v1)):Int)) (.ex (λ(x:XEx)=>let v59:=RS.ops x.s;let v34:=RS.inp x.s;eqL v25 [.ptr 0 0,.agg [.int .u8 (Ex.kind x.x),.str (Ex.rat x.x),.str (Ex.name x.x),.i (Ex.date x.x),.sl (List.length (Ex.sub x.x)) 5 (Ex.exG (Ex.sub x.x))]]/\eqH [.box v5,.arr ops.length 4 (opG ops),.arr inp.length 3 (fxG inp),Blk.map true [Sum.inr false,Sum.inl .i64] (λ(k:List Sc)=>List.any inp λ(x:Fx)=>decide (k=[Sum.inr x.name,Sum.inl x.date])) λk=>AV.int .i64 ↑(List.findIdx (λ(x:Fx)=>decide (k=[Sum.inr x.name,Sum.inl x.date])) inp)] [.box [.i 0,.osl 1 4 0 (List.length v59),.osl 2 3 0 (List.length v34),AV.omap 3,.i x.day,.sl x.f.length 3 (fxG x.f),.sl x.c.length 4 (chG x.c)],.arr (List.length v59) 4 (opG v59),.arr (List.length v34) 3 (fxG v34),Blk.map true [Sum.inr false,Sum.inl .i64] (λ(k:List Sc)=>List.any v34 λx=>decide (k=[Sum.inr x.name,Sum.inl x.date])) λk=>AV.int .i64 ↑(List.findIdx (λ(x:Fx)=>decide (k=[Sum.inr x.name,Sum.inl x.date])) v34)]/\4=4/\Ex.size x.x<n/\XEx.pre x) λn=>let v11:=Ex.rc n.f n.day n.x n.s;let v65:=RS.ops v11;let v49:=RS.inp v11;.A λn_7=>.R [.i ((↑(List.length v65):Int) - (1:Int))] [.box [.i 0,.osl 1 4 0 (List.length v65),.osl 2 3 0 (List.length v49),.omap 3,.i n.day,.sl n.f.length 3 (fxG n.f),.sl n.c.length 4 (chG n.c)],.arr (List.length v65) 4 (opG v65),.arr (List.length v49) 3 (fxG v49),Blk.map true [Sum.inr false,Sum.inl .i64] (λ(k:List Sc)=>List.any v49 λx=>decide (k=[Sum.inr x.name,Sum.inl x.date])) λk=>.int .i64 ↑(List.findIdx (λ(x:Fx)=>decide (k=[Sum.inr x.name,Sum.inl x.date])) v49),.box v4])))))) (.leaf (.back 0 [(0,.ptr 0 0),(3,.ptr 4 0)] [.box v23,.arr ops.length 4 (opG ops),.arr inp.length 3 (fxG inp),Blk.map true [Sum.inr false,Sum.inl .i64] (λ(k:List Sc)=>List.any inp λ(x:Fx)=>decide (k=[Sum.inr x.name,Sum.inl x.date])) λk=>.int .i64 ↑(List.findIdx (λ(x:Fx)=>decide (k=[Sum.inr x.name,Sum.inl x.date])) inp),.box v4]))) (.ite v40 (.side ((0:Int)<=0/\(0:Int)<(↑(List.length (Ex.sub v1)):Int)) (.ex v24 λn_1=>.all (λ(r:L8×Int)=>r=zW n_1.x n_1.day n_1.f n_1.c) λn_2=>.side ((0:Int)<=1/\(1:Int)<(↑(List.length (Ex.sub v1)):Int)) (.ex v44 λn_3=>.all (λ(r:L8×Int)=>r=zW n_3.x n_3.day n_3.f n_3.c) λn_4=>.ex (q36 [.str n_2.1,.str n_4.1]) λn_5=>.all (λ(r:Int×Int)=>r=cmpR n_5.1 n_5.2) λn_6=>.ite v40 (.S (-Prod.fst n_6) (.D ((0:Int) <= -Prod.fst n_6) (.side ((0:Int)<=0/\(0:Int)<(↑(List.length (Ex.sub v1)):Int)) (.ex (λ(x:XEx)=>let v60:=RS.ops x.s;let v35:=RS.inp x.s;eqL v39 [.ptr 0 0,.agg [.int .u8 (Ex.kind x.x),.str (Ex.rat x.x),.str (Ex.name x.x),.i (Ex.date x.x),.sl (List.length (Ex.sub x.x)) 5 (Ex.exG (Ex.sub x.x))]]/\eqH [.box v5,.arr ops.length 4 (opG ops),.arr inp.length 3 (fxG inp),Blk.map true [Sum.inr false,Sum.inl .i64] (λ(k:List Sc)=>List.any inp λ(x:Fx)=>decide (k=[Sum.inr x.name,Sum.inl x.date])) λk=>AV.int .i64 ↑(List.findIdx (λ(x:Fx)=>decide (k=[Sum.inr x.name,Sum.inl x.date])) inp)] [.box [.i 0,.osl 1 4 0 (List.length v60),.osl 2 3 0 (List.length v35),AV.omap 3,.i x.day,.sl x.f.length 3 (fxG x.f),.sl x.c.length 4 (chG x.c)],.arr (List.length v60) 4 (opG v60),.arr (List.length v35) 3 (fxG v35),Blk.map true [Sum.inr false,Sum.inl .i64] (λ(k:List Sc)=>List.any v35 λx=>decide (k=[Sum.inr x.name,Sum.inl x.date])) λk=>AV.int .i64 ↑(List.findIdx (λ(x:Fx)=>decide (k=[Sum.inr x.name,Sum.inl x.date])) v35)]/\4=4/\Ex.size x.x<n/\XEx.pre x) λn=>let v12:=Ex.rc n.f n.day n.x n.s;let v66:=RS.ops v12;let v50:=RS.inp v12;.A λn_7=>.R [.i ((↑(List.length v66):Int) - (1:Int))] [.box [.i 0,.osl 1 4 0 (List.length v66),.osl 2 3 0 (List.length v50),.omap 3,.i n.day,.sl n.f.length 3 (fxG n.f),.sl n.c.length 4 (chG n.c)],.arr (List.length v66) 4 (opG v66),.arr (List.length v50) 3 (fxG v50),Blk.map true [Sum.inr false,Sum.inl .i64] (λ(k:List Sc)=>List.any v50 λx=>decide (k=[Sum.inr x.name,Sum.inl x.date])) λk=>.int .i64 ↑(List.findIdx (λ(x:Fx)=>decide (k=[Sum.inr x.name,Sum.inl x.date])) v50),.box v4])) (.side ((0:Int)<=1/\(1:Int)<(↑(List.length (Ex.sub v1)):Int)) (.ex (λ(x:XEx)=>let v61:=RS.ops x.s;let v36:=RS.inp x.s;eqL v25 [.ptr 0 0,.agg [.int .u8 (Ex.kind x.x),.str (Ex.rat x.x),.str (Ex.name x.x),.i (Ex.date x.x),.sl (List.length (Ex.sub x.x)) 5 (Ex.exG (Ex.sub x.x))]]/\eqH [.box v5,.arr ops.length 4 (opG ops),.arr inp.length 3 (fxG inp),Blk.map true [Sum.inr false,Sum.inl .i64] (λ(k:List Sc)=>List.any inp λ(x:Fx)=>decide (k=[Sum.inr x.name,Sum.inl x.date])) λk=>AV.int .i64 ↑(List.findIdx (λ(x:Fx)=>decide (k=[Sum.inr x.name,Sum.inl x.date])) inp)] [.box [.i 0,.osl 1 4 0 (List.length v61),.osl 2 3 0 (List.length v36),AV.omap 3,.i x.day,.sl x.f.length 3 (fxG x.f),.sl x.c.length 4 (chG x.c)],.arr (List.length v61) 4 (opG v61),.arr (List.length v36) 3 (fxG v36),Blk.map true [Sum.inr false,Sum.inl .i64] (λ(k:List Sc)=>List.any v36 λx=>decide (k=[Sum.inr x.name,Sum.inl x.date])) λk=>AV.int .i64 ↑(List.findIdx (λ(x:Fx)=>decide (k=[Sum.inr x.name,Sum.inl x.date])) v36)]/\4=4/\Ex.size x.x<n/\XEx.pre x) λn=>let v13:=Ex.rc n.f n.day n.x n.s;let v67:=RS.ops v13;let v51:=RS.inp v13;.A λn_7=>.R [.i ((↑(List.length v67):Int) - (1:Int))] [.box [.i 0,.osl 1 4 0 (List.length v67),.osl 2 3 0 (List.length v51),.omap 3,.i n.day,.sl n.f.length 3 (fxG n.f),.sl n.c.length 4 (chG n.c)],.arr (List.length v67) 4 (opG v67),.arr (List.length v51) 3 (fxG v51),Blk.map true [Sum.inr false,Sum.inl .i64] (λ(k:List Sc)=>List.any v51 λx=>decide (k=[Sum.inr x.name,Sum.inl x.date])) λk=>.int .i64 ↑(List.findIdx (λ(x:Fx)=>decide (k=[Sum.inr x.name,Sum.inl x.date])) v51),.box v4])))) (.D ((0:Int)<=n_6.1) (.side ((0:Int)<=0/\(0:Int)<(↑(List.length (Ex.sub v1)):Int)) (.ex (λ(x:XEx)=>let v62:=RS.ops x.s;let v37:=RS.inp x.s;eqL v39 [.ptr 0 0,.agg [.int .u8 (Ex.kind x.x),.str (Ex.rat x.x),.str (Ex.name x.x),.i (Ex.date x.x),.sl (List.length (Ex.sub x.x)) 5 (Ex.exG (Ex.sub x.x))]]/\eqH [.box v5,.arr ops.length 4 (opG ops),.arr inp.length 3 (fxG inp),Blk.map true [Sum.inr false,Sum.inl .i64] (λ(k:List Sc)=>List.any inp λ(x:Fx)=>decide (k=[Sum.inr x.name,Sum.inl x.date])) λk=>AV.int .i64 ↑(List.findIdx (λ(x:Fx)=>decide (k=[Sum.inr x.name,Sum.inl x.date])) inp)] [.box [.i 0,.osl 1 4 0 (List.length v62),.osl 2 3 0 (List.length v37),AV.omap 3,.i x.day,.sl x.f.length 3 (fxG x.f),.sl x.c.length 4 (chG x.c)],.arr (List.length v62) 4 (opG v62),.arr (List.length v37) 3 (fxG v37),Blk.map true [Sum.inr false,Sum.inl .i64] (λ(k:List Sc)=>List.any v37 λx=>decide (k=[Sum.inr x.name,Sum.inl x.date])) λk=>AV.int .i64 ↑(List.findIdx (λ(x:Fx)=>decide (k=[Sum.inr x.name,Sum.inl x.date])) v37)]/\4=4/\Ex.size x.x<n/\XEx.pre x) λn=>let v14:=Ex.rc n.f n.day n.x n.s;let v68:=RS.ops v14;let v52:=RS.inp v14;.A λn_7=>.R [.i ((↑(List.length v68):Int) - (1:Int))] [.box [.i 0,.osl 1 4 0 (List.length v68),.osl 2 3 0 (List.length v52),.omap 3,.i n.day,.sl n.f.length 3 (fxG n.f),.sl n.c.length 4 (chG n.c)],.arr (List.length v68) 4 (opG v68),.arr (List.length v52) 3 (fxG v52),Blk.map true [Sum.inr false,Sum.inl .i64] (λ(k:List Sc)=>List.any v52 λx=>decide (k=[Sum.inr x.name,Sum.inl x.date])) λk=>.int .i64 ↑(List.findIdx (λ(x:Fx)=>decide (k=[Sum.inr x.name,Sum.inl x.date])) v52),.box v4])) (.side ((0:Int)<=1/\(1:Int)<(↑(List.length (Ex.sub v1)):Int)) (.ex (λ(x:XEx)=>let v63:=RS.ops x.s;let v38:=RS.inp x.s;eqL v25 [.ptr 0 0,.agg [.int .u8 (Ex.kind x.x),.str (Ex.rat x.x),.str (Ex.name x.x),.i (Ex.date x.x),.sl (List.length (Ex.sub x.x)) 5 (Ex.exG (Ex.sub x.x))]]/\eqH [.box v5,.arr ops.length 4 (opG ops),.arr inp.length 3 (fxG inp),Blk.map true [Sum.inr false,Sum.inl .i64] (λ(k:List Sc)=>List.any inp λ(x:Fx)=>decide (k=[Sum.inr x.name,Sum.inl x.date])) λk=>AV.int .i64 ↑(List.findIdx (λ(x:Fx)=>decide (k=[Sum.inr x.name,Sum.inl x.date])) inp)] [.box [.i 0,.osl 1 4 0 (List.length v63),.osl 2 3 0 (List.length v38),AV.omap 3,.i x.day,.sl x.f.length 3 (fxG x.f),.sl x.c.length 4 (chG x.c)],.arr (List.length v63) 4 (opG v63),.arr (List.length v38) 3 (fxG v38),Blk.map true [Sum.inr false,Sum.inl .i64] (λ(k:List Sc)=>List.any v38 λx=>decide (k=[Sum.inr x.name,Sum.inl x.date])) λk=>AV.int .i64 ↑(List.findIdx (λ(x:Fx)=>decide (k=[Sum.inr x.name,Sum.inl x.date])) v38)]/\4=4/\Ex.size x.x<n/\XEx.pre x) λn=>let v15:=Ex.rc n.f n.day n.x n.s;let v69:=RS.ops v15;let v53:=RS.inp v15;.A λn_7=>.R [.i ((↑(List.length v69):Int) - (1:Int))] [.box [.i 0,.osl 1 4 0 (List.length v69),.osl 2 3 0 (List.length v53),.omap 3,.i n.day,.sl n.f.length 3 (fxG n.f),.sl n.c.length 4 (chG n.c)],.arr (List.length v69) 4 (opG v69),.arr (List.length v53) 3 (fxG v53),Blk.map true [Sum.inr false,Sum.inl .i64] (λ(k:List Sc)=>List.any v53 λx=>decide (k=[Sum.inr x.name,Sum.inl x.date])) λk=>.int .i64 ↑(List.findIdx (λ(x:Fx)=>decide (k=[Sum.inr x.name,Sum.inl x.date])) v53),.box v4])))))) (.leaf (.back 0 [(0,.ptr 0 0),(3,.ptr 4 0)] [.box v23,.arr ops.length 4 (opG ops),.arr inp.length 3 (fxG inp),Blk.map true [Sum.inr false,Sum.inl .i64] (λ(k:List Sc)=>List.any inp λ(x:Fx)=>decide (k=[Sum.inr x.name,Sum.inl x.date])) λk=>.int .i64 ↑(List.findIdx (λ(x:Fx)=>decide (k=[Sum.inr x.name,Sum.inl x.date])) inp),.box v4])))))))) ?_;simp only [q36,q42,Tree.holds,zd,inR,lo,hi,aD]
  have again:∀ (i:Nat),i<sub.length->(sub.getD i Ex.nil).zx=1->((sub.getD i Ex.nil).ev f day).e=0->(Ex.mk k r nm d sub).rc f day ⟨ops,inp⟩=(sub.getD i Ex.nil).rc f day ⟨ops,inp⟩->∃ p:XEx,(eqL [.ptr 0 0,.agg [.int .u8 (sub.getD i Ex.nil).kind,.str (sub.getD i Ex.nil).rat,.str (sub.getD i Ex.nil).name,.i (sub.getD i Ex.nil).date,.sl (sub.getD i Ex.nil).sub.length 5 (sub.getD i Ex.nil).deep]] [.ptr 0 0,p.x.exA]/\eqH (HRc ⟨ops,inp⟩ day f c) (HRc p.s p.day p.f p.c)/\True/\p.x.size<n/\p.pre)/\(∃ _:Unit,True)/\∀ _:Unit,True->RetR (brxC (n+1)) (HRc ⟨ops,inp⟩ day f c).length Q [.i (((p.x.rc p.f p.day p.s).ops.length:Int) - 1)] (HRc (p.x.rc p.f p.day p.s) p.day p.f p.c++[.box [.int .u8 k,.str r,.str nm,.i d,.sl sub.length 5 (Ex.exG sub)]]):=by
   intro i hi g0 g1 g2;refine⟨⟨sub.getD i Ex.nil,⟨ops,inp⟩,day,f,c⟩,⟨⟨⟨rfl,rfl⟩,⟨⟨rfl,rfl⟩,rfl,rfl,⟨rfl,rfl⟩,⟨rfl,rfl,Ex.qW _⟩,trivial⟩,trivial⟩,by simp [HRc,fxS,chS,za],trivial,pre hi g0 g1 _ (by have:=dle hi; show ops.length<=_; omega) (by have:=dle hi; show inp.length<=_; omega)⟩,⟨(),trivial⟩,λ_ _=> ?_⟩;rw [g2] at hq;refine RetR.keep [0,1,2,3] rfl (by simp [HRc]) (by show ∀ j,j<4->_; decide) rfl hq (by simp [resV,exp2,exp1,exp0,ren0,eqA2,eqL1]) ?_ rfl;refine⟨?_,⟨rfl,rfl,za _ _ _⟩,⟨rfl,rfl,za _ _ _⟩,⟨⟨rfl,.inl rfl⟩,rfl,λ_=>rfl,λ_ _=>rfl⟩,trivial⟩;simp [HRc,expB,exp1,exp0,ren0,zz,fxS,chS,za]
  have val:∀ (i:Nat),i<sub.length->(sub.getD i Ex.nil).zx=1->((sub.getD i Ex.nil).ev f day).e=0->zW (sub.getD i Ex.nil) day f c=(((sub.getD i Ex.nil).ev f day).v,0):=λi hi g0 g1=>KB g0 (by have:=dle hi; omega) (dle hi).2.1 h6 h7 g1
  refine⟨λhk=> ?_,λhk1=>⟨λhk=> ?_,λhk2=>⟨λhk=> ?_,λhk3=> ?_⟩⟩⟩
  ·have hk:k=1:=aB hk;rw [rcX,show rcN f day k r nm d (Ex.evs f day sub) (Ex.rcs f day sub) ⟨ops,inp⟩=RS.put ⟨ops,inp⟩ ⟨2,0,0,r⟩ by unfold rcN; rw [aP hk]] at hq;refine⟨⟨⟨ops,inp⟩,day,f,c,⟨2,0,0,r⟩⟩,⟨by simp [Ex.rat],by simp [za],trivial,by show ops.length<_; omega⟩,⟨(),trivial⟩,λ_ _=> ?_⟩;refine RetR.keep [0,1,2,3] rfl (by simp) (by show ∀ j,j<4->_; decide) rfl hq (by simp [resV,exp2,exp1,exp0,ren0,eqA2,eqL1,RS.put]) ?_ rfl;refine⟨?_,⟨rfl,rfl,za _ _ _⟩,⟨rfl,rfl,za _ _ _⟩,⟨⟨rfl,.inl rfl⟩,rfl,λ_=>rfl,λ_ _=>rfl⟩,trivial⟩;simp [expB,exp1,exp0,ren0,zz,fxS,chS,za]
  ·have hk:k=2:=aB hk;rw [rcX,show rcN f day k r nm d (Ex.evs f day sub) (Ex.rcs f day sub) ⟨ops,inp⟩=RS.fix f nm d ⟨ops,inp⟩ by unfold rcN; rw [aO (by omega),aP hk]] at hq;refine⟨⟨⟨ops,inp⟩,day,f,c,nm,d⟩,⟨by simp [Ex.name,Ex.date],by simp [za],trivial,by show ops.length<_; omega,by show inp.length<_; omega,by show f.length<_; have:=(uS.1 h6).1; omega,nml⟩,⟨(),trivial⟩,λ_ _=> ?_⟩;rw [(show(RS.fix f nm d ⟨ops,inp⟩).ops.length=ops.length+1 from(Zs f nm d ⟨ops,inp⟩).1),show((ops.length+1:Nat):Int) - 1=ops.length by omega] at hq;refine RetR.keep [0,1,2,3] rfl (by simp) (by show ∀ j,j<4->_; decide) rfl hq (by simp [resV,exp2,exp1,exp0,ren0,eqA2,eqL1]) ?_ rfl;refine⟨?_,⟨rfl,rfl,za _ _ _⟩,⟨rfl,rfl,za _ _ _⟩,⟨⟨rfl,.inl rfl⟩,rfl,λ_=>rfl,λ_ _=>rfl⟩,trivial⟩;simp [expB,exp1,exp0,ren0,zz,fxS,chS,za]
  ·have hk:k=3:=aB hk;rw [rcX,show rcN f day k r nm d (Ex.evs f day sub) (Ex.rcs f day sub) ⟨ops,inp⟩=RS.fix f nm day ⟨ops,inp⟩ by unfold rcN; rw [aO (by omega),aO (by omega),aP hk]] at hq;refine⟨⟨⟨ops,inp⟩,day,f,c,nm,day⟩,⟨by simp [Ex.name,Ex.date],by simp [za],trivial,by show ops.length<_; omega,by show inp.length<_; omega,by show f.length<_; have:=(uS.1 h6).1; omega,nml⟩,⟨(),trivial⟩,λ_ _=> ?_⟩;rw [(show(RS.fix f nm day ⟨ops,inp⟩).ops.length=ops.length+1 from(Zs f nm day ⟨ops,inp⟩).1),show((ops.length+1:Nat):Int) - 1=ops.length by omega] at hq;refine RetR.keep [0,1,2,3] rfl (by simp) (by show ∀ j,j<4->_; decide) rfl hq (by simp [resV,exp2,exp1,exp0,ren0,eqA2,eqL1]) ?_ rfl;refine⟨?_,⟨rfl,rfl,za _ _ _⟩,⟨rfl,rfl,za _ _ _⟩,⟨⟨rfl,.inl rfl⟩,rfl,λ_=>rfl,λ_ _=>rfl⟩,trivial⟩;simp [expB,exp1,exp0,ren0,zz,fxS,chS,za]
  ·have hk1:k≠1:=aC hk1;have hk2:k≠2:=aC hk2;have hk3:k≠3:=aC hk3;have env1:eqL [.agg [.sl f.length 3 (fxG f),.sl c.length 4 (chG c)]] [.agg [.sl f.length 3 (fxG f),.sl c.length 4 (chG c)]]:=⟨⟨⟨rfl,rfl,za _ _ _⟩,⟨rfl,rfl,za _ _ _⟩,trivial⟩,trivial⟩;have vok:∀ {i:Nat},i<sub.length->VI.ok ⟨sub.getD i Ex.nil,day,f,c⟩:=λ{i} hi=>⟨by have:=dle hi; show(sub.getD i Ex.nil).size<_; omega,(dle hi).2.2,h8⟩
   refine⟨λhk=> ?_,λhk9=>zcx (λhk78=> ?_) (λhk7 hk8=> ?_)⟩
   ·have hk:k=9:=aB hk
    obtain⟨-,hl,s0,s1,s2⟩:k=9/\sub.length=3/\(sub.getD 0 Ex.nil).zx=2/\(sub.getD 1 Ex.nil).zx=1/\(sub.getD 2 Ex.nil).zx=1:=by
     rcases hnc with ⟨h,_⟩ | h | h | ⟨h,_⟩ | h
     ·omega
     ·omega
     ·omega
     ·omega
     ·exact h
    have b0:0<sub.length:=by omega
    have b1:1<sub.length:=by omega
    have b2:2<sub.length:=by omega
    unfold valN at h2;rw [aO (by omega),aO (by omega),aO (by omega),aP hk,gE b0,gE b1,gE b2] at h2
    have hg:((sub.getD 0 Ex.nil).ev f day).g=0:=by
     by_cases q:((sub.getD 0 Ex.nil).ev f day).g=0
     ·exact q
     ·rw [aP q] at h2; exact absurd h2 q
    rw [aO (λq=>q hg)] at h2
    have r9:(Ex.mk k r nm d sub).rc f day ⟨ops,inp⟩=if((sub.getD 0 Ex.nil).ev f day).b then(sub.getD 1 Ex.nil).rc f day ⟨ops,inp⟩ else(sub.getD 2 Ex.nil).rc f day ⟨ops,inp⟩:=by
     rw [rcX];unfold rcN;rw [aO (by omega),aO (by omega),aO (by omega),aP hk,gE b0,gR b1,gR b2]
    refine⟨⟨by decide,by show(0:Int)<sub.length; omega⟩,λ_=>⟨⟨sub.getD 0 Ex.nil,day,f,c⟩,⟨⟨⟨⟨rfl,rfl⟩,rfl,rfl,⟨rfl,rfl⟩,⟨rfl,rfl,Ex.qW _⟩,trivial⟩,⟨rfl,rfl⟩,env1⟩,vok b0⟩,⟨_,rfl⟩,?_⟩⟩;intro v hv;replace hv:v=uj (sub.getD 0 Ex.nil) day f c:=hv;rw [zen s0 (by have:=dle b0; omega) (dle b0).2.1 h6 h7 hg] at hv;subst hv;refine⟨λg=>⟨⟨by decide,by show(1:Int)<sub.length; omega⟩,λ_=> ?_⟩,λg=>⟨⟨by decide,by show(2:Int)<sub.length; omega⟩,λ_=> ?_⟩⟩
    ·replace g:((sub.getD 0 Ex.nil).ev f day).b=true:=g;rw [aP g] at h2 r9;exact again 1 b1 s1 h2 r9
    ·replace g:((sub.getD 0 Ex.nil).ev f day).b=false:=g;rw [aO (by rw [g]; decide)] at h2 r9;exact again 2 b2 s2 h2 r9
   ·have hk9:k≠9:=aC hk9;have hk78:k=7\/k=8:=hk78.elim (λe=>.inl (aB e)) (λe=>.inr (aB e))
    obtain⟨hl,s0,s1⟩:sub.length=2/\(sub.getD 0 Ex.nil).zx=1/\(sub.getD 1 Ex.nil).zx=1:=by
     rcases hnc with ⟨h,_⟩ | h | h | h | ⟨h,_⟩
     ·omega
     ·omega
     ·omega
     ·exact h.2
     ·omega
    have b0:0<sub.length:=by omega
    have b1:1<sub.length:=by omega
    have ev:valN f day k r nm d (Ex.evs f day sub)=ka [] ((sub.getD 0 Ex.nil).ev f day) ((sub.getD 1 Ex.nil).ev f day) (opR k):=by
     unfold valN; rw [aO (by omega),aO (by omega),aO (by omega),aO (by omega),gE b0,gE b1]
    rw [ev] at h2;obtain⟨z0,z1,-⟩:=Xq h2;have q0:=Ex.kX hf day _ s0 z0;have q1:=Ex.kX hf day _ s1 z1;have l0:=zV q0;have l1:=zV q1
    have rr:(Ex.mk k r nm d sub).rc f day ⟨ops,inp⟩=if k=7 then(if(cmpR ((sub.getD 0 Ex.nil).ev f day).v ((sub.getD 1 Ex.nil).ev f day).v).1<0 then(sub.getD 1 Ex.nil).rc f day ⟨ops,inp⟩ else(sub.getD 0 Ex.nil).rc f day ⟨ops,inp⟩) else(if 0<(cmpR ((sub.getD 0 Ex.nil).ev f day).v ((sub.getD 1 Ex.nil).ev f day).v).1 then(sub.getD 1 Ex.nil).rc f day ⟨ops,inp⟩ else(sub.getD 0 Ex.nil).rc f day ⟨ops,inp⟩):=by
     rw [rcX];unfold rcN;rw [aO (by omega),aO (by omega),aO (by omega),aO (by omega),gE b0,gE b1,gR b0,gR b1];by_cases q:k=7
     ·rw [aP q,aP q]
     ·rw [aO q,aO q,aP (by omega)]
    have c1 : -1<=(cmpR ((sub.getD 0 Ex.nil).ev f day).v ((sub.getD 1 Ex.nil).ev f day).v).1/\(cmpR ((sub.getD 0 Ex.nil).ev f day).v ((sub.getD 1 Ex.nil).ev f day).v).1<=1:=by
     rcases Xs q0 q1 with e | e
     ·rw [e]; decide
     ·rw [e]; show -1<=(if _ then _ else if _ then _ else _:Int)/\(if _ then _ else if _ then _ else _:Int)<=1; split
      ·decide
      ·split<;>decide
    refine⟨⟨by decide,by show(0:Int)<sub.length; omega⟩,λ_=>⟨⟨sub.getD 0 Ex.nil,day,f,c⟩,⟨⟨⟨⟨rfl,rfl⟩,rfl,rfl,⟨rfl,rfl⟩,⟨rfl,rfl,Ex.qW _⟩,trivial⟩,⟨rfl,rfl⟩,env1⟩,vok b0⟩,⟨_,rfl⟩,?_⟩⟩;intro v hv;replace hv:v=zW (sub.getD 0 Ex.nil) day f c:=hv;rw [val 0 b0 s0 z0] at hv;subst hv;refine⟨⟨by decide,by show(1:Int)<sub.length; omega⟩,λ_=>⟨⟨sub.getD 1 Ex.nil,day,f,c⟩,⟨⟨⟨⟨rfl,rfl⟩,rfl,rfl,⟨rfl,rfl⟩,⟨rfl,rfl,Ex.qW _⟩,trivial⟩,⟨rfl,rfl⟩,env1⟩,vok b1⟩,⟨_,rfl⟩,?_⟩⟩;intro v hv;replace hv:v=zW (sub.getD 1 Ex.nil) day f c:=hv;rw [val 1 b1 s1 z1] at hv;subst hv;refine⟨(((sub.getD 0 Ex.nil).ev f day).v,((sub.getD 1 Ex.nil).ev f day).v),⟨⟨rfl,rfl,trivial⟩,by show((sub.getD 0 Ex.nil).ev f day).v.length<_; omega,by show((sub.getD 1 Ex.nil).ev f day).v.length<_; omega⟩,⟨_,rfl⟩,?_⟩;intro w hw;replace hw:w=cmpR ((sub.getD 0 Ex.nil).ev f day).v ((sub.getD 1 Ex.nil).ev f day).v:=hw;rw [<- hw] at rr c1;refine⟨λk8=>⟨by omega,λ_=>⟨λg=>⟨⟨by decide,by show(0:Int)<sub.length; omega⟩,λ_=>again 0 b0 s0 z0 ?_⟩,λg=>⟨⟨by decide,by show(1:Int)<sub.length; omega⟩,λ_=>again 1 b1 s1 z1 ?_⟩⟩⟩,λk8=>⟨λg=>⟨⟨by decide,by show(0:Int)<sub.length; omega⟩,λ_=>again 0 b0 s0 z0 ?_⟩,λg=>⟨⟨by decide,by show(1:Int)<sub.length; omega⟩,λ_=>again 1 b1 s1 z1 ?_⟩⟩⟩
    ·have k8:k=8:=aB k8;have g:=aB g;rw [rr,aO (by omega),aO (by omega)]
    ·have k8:k=8:=aB k8;have g:=aC g;rw [rr,aO (by omega),aP (by omega)]
    ·have k8:k≠8:=aC k8;have g:=aB g;rw [rr,aP (by omega),aO (by omega)]
    ·have k8:k≠8:=aC k8;have g:=aC g;rw [rr,aP (by omega),aP (by omega)]
   ·have hk9:k≠9:=aC hk9;have hk7:k≠7:=aC hk7;have hk8:k≠8:=aC hk8;rw [aP trivial];refine⟨⟨(),?_⟩,by simp [SBx1],heq k,by kernel_rfl,by show 1<=5; decide⟩;rcases hnc with ⟨h,_⟩ | h | h | h | ⟨h,_⟩
    ·omega
    ·omega
    ·omega
    ·exact⟨by omega,h.2⟩
    ·omega
 show xc none prog f29 O 1 w0 I0 _ _ (LBx.drop 2) _;refine zb.cutL (ι:=Unit) (LBx.drop 2) 1 0 (λ_=>SBx2 k) (λ_=>HBx k d day r nm sub ⟨ops,inp⟩ f c) (by kernel_rfl) (by kernel_rfl) ?_ λ_=> ?_
 ·rcases(show k=4\/k=5\/k=6 by omega) with rfl | rfl | rfl
  ·refine zb.n (QD ih) [0,3,13] (let v4:List AV:=[.int .u8 4,.str r,.str nm,.i d,.sl sub.length 5 (Ex.exG sub)];let v3:=zN (zN (zN xT [Sum.inl (4:Int)]) [Sum.inl (5:Int)]) [Sum.inl (6:Int)];let v2:=z7 (z7 (z7 yv [Sum.inl (4:Int)] (.int .u8 3)) [Sum.inl (5:Int)] (.int .u8 4)) [Sum.inl (6:Int)] (.int .u8 5);let v1:List AV:=[.i 0,.osl 1 4 0 ops.length,.osl 2 3 0 inp.length,.omap 3,.i day,.sl f.length 3 (fxG f),.sl c.length 4 (chG c)];.ite true (.leaf (.back 0 [(0,.ptr 0 0),(3,.ptr 4 0),(13,.int .u8 3)] [.box v1,.arr ops.length 4 (opG ops),.arr inp.length 3 (fxG inp),Blk.map true [Sum.inr false,Sum.inl .i64] (λ(k:List Sc)=>List.any inp λ(x:Fx)=>decide (k=[Sum.inr x.name,Sum.inl x.date])) λk=>.int .i64 ↑(List.findIdx (λ(x:Fx)=>decide (k=[Sum.inr x.name,Sum.inl x.date])) inp),.box v4,Blk.map false [Sum.inl .u8] v3 v2])) (.leaf (.back 0 [(0,.ptr 0 0),(3,.ptr 4 0),(13,.int .u8 0)] [.box v1,.arr ops.length 4 (opG ops),.arr inp.length 3 (fxG inp),Blk.map true [Sum.inr false,Sum.inl .i64] (λ(k:List Sc)=>List.any inp λ(x:Fx)=>decide (k=[Sum.inr x.name,Sum.inl x.date])) λk=>.int .i64 ↑(List.findIdx (λ(x:Fx)=>decide (k=[Sum.inr x.name,Sum.inl x.date])) inp),.box v4,Blk.map false [Sum.inl .u8] v3 v2]))) ?_;simp only [Tree.holds,zd,inR,lo,hi,aD];refine⟨λ_=> ?_,λq=>by cases q⟩;rw [aP trivial];exact⟨(),by simp [SBx1,SBx2],heq _,by kernel_rfl,by show 1<=5; decide⟩
  ·refine zb.n (QD ih) [0,3,13] (let v4:List AV:=[.int .u8 5,.str r,.str nm,.i d,.sl sub.length 5 (Ex.exG sub)];let v3:=zN (zN (zN xT [Sum.inl (4:Int)]) [Sum.inl (5:Int)]) [Sum.inl (6:Int)];let v2:=z7 (z7 (z7 yv [Sum.inl (4:Int)] (.int .u8 3)) [Sum.inl (5:Int)] (.int .u8 4)) [Sum.inl (6:Int)] (.int .u8 5);let v1:List AV:=[.i 0,.osl 1 4 0 ops.length,.osl 2 3 0 inp.length,.omap 3,.i day,.sl f.length 3 (fxG f),.sl c.length 4 (chG c)];.ite true (.leaf (.back 0 [(0,.ptr 0 0),(3,.ptr 4 0),(13,.int .u8 4)] [.box v1,.arr ops.length 4 (opG ops),.arr inp.length 3 (fxG inp),Blk.map true [Sum.inr false,Sum.inl .i64] (λ(k:List Sc)=>List.any inp λ(x:Fx)=>decide (k=[Sum.inr x.name,Sum.inl x.date])) λk=>.int .i64 ↑(List.findIdx (λ(x:Fx)=>decide (k=[Sum.inr x.name,Sum.inl x.date])) inp),.box v4,Blk.map false [Sum.inl .u8] v3 v2])) (.leaf (.back 0 [(0,.ptr 0 0),(3,.ptr 4 0),(13,.int .u8 0)] [.box v1,.arr ops.length 4 (opG ops),.arr inp.length 3 (fxG inp),Blk.map true [Sum.inr false,Sum.inl .i64] (λ(k:List Sc)=>List.any inp λ(x:Fx)=>decide (k=[Sum.inr x.name,Sum.inl x.date])) λk=>.int .i64 ↑(List.findIdx (λ(x:Fx)=>decide (k=[Sum.inr x.name,Sum.inl x.date])) inp),.box v4,Blk.map false [Sum.inl .u8] v3 v2]))) ?_;simp only [Tree.holds,zd,inR,lo,hi,aD];refine⟨λ_=> ?_,λq=>by cases q⟩;rw [aP trivial];exact⟨(),by simp [SBx1,SBx2],heq _,by kernel_rfl,by show 1<=5; decide⟩
  ·refine zb.n (QD ih) [0,3,13] (let v4:List AV:=[.int .u8 6,.str r,.str nm,.i d,.sl sub.length 5 (Ex.exG sub)];let v3:=zN (zN (zN xT [Sum.inl (4:Int)]) [Sum.inl (5:Int)]) [Sum.inl (6:Int)];let v2:=z7 (z7 (z7 yv [Sum.inl (4:Int)] (.int .u8 3)) [Sum.inl (5:Int)] (.int .u8 4)) [Sum.inl (6:Int)] (.int .u8 5);let v1:List AV:=[.i 0,.osl 1 4 0 ops.length,.osl 2 3 0 inp.length,.omap 3,.i day,.sl f.length 3 (fxG f),.sl c.length 4 (chG c)];.ite true (.leaf (.back 0 [(0,.ptr 0 0),(3,.ptr 4 0),(13,.int .u8 5)] [.box v1,.arr ops.length 4 (opG ops),.arr inp.length 3 (fxG inp),Blk.map true [Sum.inr false,Sum.inl .i64] (λ(k:List Sc)=>List.any inp λ(x:Fx)=>decide (k=[Sum.inr x.name,Sum.inl x.date])) λk=>.int .i64 ↑(List.findIdx (λ(x:Fx)=>decide (k=[Sum.inr x.name,Sum.inl x.date])) inp),.box v4,Blk.map false [Sum.inl .u8] v3 v2])) (.leaf (.back 0 [(0,.ptr 0 0),(3,.ptr 4 0),(13,.int .u8 0)] [.box v1,.arr ops.length 4 (opG ops),.arr inp.length 3 (fxG inp),Blk.map true [Sum.inr false,Sum.inl .i64] (λ(k:List Sc)=>List.any inp λ(x:Fx)=>decide (k=[Sum.inr x.name,Sum.inl x.date])) λk=>.int .i64 ↑(List.findIdx (λ(x:Fx)=>decide (k=[Sum.inr x.name,Sum.inl x.date])) inp),.box v4,Blk.map false [Sum.inl .u8] v3 v2]))) ?_;simp only [Tree.holds,zd,inR,lo,hi,aD];refine⟨λ_=> ?_,λq=>by cases q⟩;rw [aP trivial];exact⟨(),by simp [SBx1,SBx2],heq _,by kernel_rfl,by show 1<=5; decide⟩
 show xc none prog f29 O 1 w0 I0 _ _ ((LBx.drop 2).drop 1) _;refine zb.n (QD ih) [0,3,13,14] (let v5:=sub.getD 1 Ex.nil;let v4:=sub.getD 0 Ex.nil;.side ((0:Int)<=0/\(0:Int)<sub.length) (.ex (λ(x:XEx)=>let v10:=RS.ops x.s;let v6:=RS.inp x.s;eqL [.ptr 0 0,.agg [.int .u8 (Ex.kind v4),.str (Ex.rat v4),.str (Ex.name v4),.i (Ex.date v4),.sl (List.length (Ex.sub v4)) 5 (Ex.deep v4)]] [.ptr 0 0,.agg [.int .u8 (Ex.kind x.x),.str (Ex.rat x.x),.str (Ex.name x.x),.i (Ex.date x.x),.sl (List.length (Ex.sub x.x)) 5 (Ex.exG (Ex.sub x.x))]]/\eqH [.box [.i 0,.osl 1 4 0 ops.length,.osl 2 3 0 inp.length,AV.omap 3,.i day,.sl f.length 3 (fxG f),.sl c.length 4 (chG c)],.arr ops.length 4 (opG ops),.arr inp.length 3 (fxG inp),Blk.map true [Sum.inr false,Sum.inl .i64] (λ(k:List Sc)=>List.any inp λ(x:Fx)=>decide (k=[Sum.inr x.name,Sum.inl x.date])) λk=>AV.int .i64 ↑(List.findIdx (λ(x:Fx)=>decide (k=[Sum.inr x.name,Sum.inl x.date])) inp)] [.box [.i 0,.osl 1 4 0 (List.length v10),.osl 2 3 0 (List.length v6),AV.omap 3,.i x.day,.sl x.f.length 3 (fxG x.f),.sl x.c.length 4 (chG x.c)],.arr (List.length v10) 4 (opG v10),.arr (List.length v6) 3 (fxG v6),Blk.map true [Sum.inr false,Sum.inl .i64] (λ(k:List Sc)=>List.any v6 λx=>decide (k=[Sum.inr x.name,Sum.inl x.date])) λk=>AV.int .i64 ↑(List.findIdx (λ(x:Fx)=>decide (k=[Sum.inr x.name,Sum.inl x.date])) v6)]/\4=4/\Ex.size x.x<n/\XEx.pre x) λn_1=>let v1:=Ex.rc n_1.f n_1.day n_1.x n_1.s;.A λn_2=>.side ((0:Int)<=1/\(1:Int)<sub.length) (.ex (λ(x:XEx)=>let v11:=RS.ops x.s;let v7:=RS.inp x.s;eqL [.ptr 0 0,.agg [.int .u8 (Ex.kind v5),.str (Ex.rat v5),.str (Ex.name v5),.i (Ex.date v5),.sl (List.length (Ex.sub v5)) 5 (Ex.deep v5)]] [.ptr 0 0,.agg [.int .u8 (Ex.kind x.x),.str (Ex.rat x.x),.str (Ex.name x.x),.i (Ex.date x.x),.sl (List.length (Ex.sub x.x)) 5 (Ex.exG (Ex.sub x.x))]]/\eqH [.box [.i 0,.osl 1 4 0 (List.length v1.ops),.osl 2 3 0 (List.length v1.inp),AV.omap 3,.i n_1.day,.sl n_1.f.length 3 (fxG n_1.f),.sl n_1.c.length 4 (chG n_1.c)],.arr (List.length v1.ops) 4 (opG v1.ops),.arr (List.length v1.inp) 3 (fxG v1.inp),Blk.map true [Sum.inr false,Sum.inl .i64] (λ(k:List Sc)=>List.any v1.inp λx=>decide (k=[Sum.inr x.name,Sum.inl x.date])) λk=>AV.int .i64 ↑(List.findIdx (λ(x:Fx)=>decide (k=[Sum.inr x.name,Sum.inl x.date])) v1.inp)] [.box [.i 0,.osl 1 4 0 (List.length v11),.osl 2 3 0 (List.length v7),AV.omap 3,.i x.day,.sl x.f.length 3 (fxG x.f),.sl x.c.length 4 (chG x.c)],.arr (List.length v11) 4 (opG v11),.arr (List.length v7) 3 (fxG v7),Blk.map true [Sum.inr false,Sum.inl .i64] (λ(k:List Sc)=>List.any v7 λx=>decide (k=[Sum.inr x.name,Sum.inl x.date])) λk=>AV.int .i64 ↑(List.findIdx (λ(x:Fx)=>decide (k=[Sum.inr x.name,Sum.inl x.date])) v7)]/\4=4/\Ex.size x.x<n/\XEx.pre x) λn=>let v2:=Ex.rc n.f n.day n.x n.s;.A λn_3=>.ex (λ(x:XRc)=>let v9:=RS.ops x.s;let v8:=RS.inp x.s;eqL [.ptr 0 0,.agg [.int .u8 (k - (1:Int)),.i ((↑(List.length v1.ops):Int) - (1:Int)),.i ((↑(List.length v2.ops):Int) - (1:Int)),.str #[].toList]] [.ptr 0 0,.agg [.int .u8 x.o.kind,.i x.o.a,.i x.o.b,.str x.o.rat]]/\eqH [.box [.i 0,.osl 1 4 0 (List.length v2.ops),.osl 2 3 0 (List.length v2.inp),AV.omap 3,.i n.day,.sl n.f.length 3 (fxG n.f),.sl n.c.length 4 (chG n.c)],.arr (List.length v2.ops) 4 (opG v2.ops),.arr (List.length v2.inp) 3 (fxG v2.inp),Blk.map true [Sum.inr false,Sum.inl .i64] (λ(k:List Sc)=>List.any v2.inp λx=>decide (k=[Sum.inr x.name,Sum.inl x.date])) λk=>AV.int .i64 ↑(List.findIdx (λ(x:Fx)=>decide (k=[Sum.inr x.name,Sum.inl x.date])) v2.inp)] [.box [.i 0,.osl 1 4 0 (List.length v9),.osl 2 3 0 (List.length v8),AV.omap 3,.i x.day,.sl x.f.length 3 (fxG x.f),.sl x.c.length 4 (chG x.c)],.arr (List.length v9) 4 (opG v9),.arr (List.length v8) 3 (fxG v8),Blk.map true [Sum.inr false,Sum.inl .i64] (λ(k:List Sc)=>List.any v8 λx=>decide (k=[Sum.inr x.name,Sum.inl x.date])) λk=>AV.int .i64 ↑(List.findIdx (λ(x:Fx)=>decide (k=[Sum.inr x.name,Sum.inl x.date])) v8)]/\4=4/\List.length v9 <1099511627776) λn=>let v3:=RS.put n.s n.o;.A λn_4=>.R [.int .i64 ↑(List.length n.s.ops)] [.box [.i 0,.osl 1 4 0 (List.length v3.ops),.osl 2 3 0 (List.length v3.inp),.omap 3,.i n.day,.sl n.f.length 3 (fxG n.f),.sl n.c.length 4 (chG n.c)],.arr (List.length v3.ops) 4 (opG v3.ops),.arr (List.length v3.inp) 3 (fxG v3.inp),Blk.map true [Sum.inr false,Sum.inl .i64] (λ(k:List Sc)=>List.any v3.inp λx=>decide (k=[Sum.inr x.name,Sum.inl x.date])) λk=>.int .i64 ↑(List.findIdx (λ(x:Fx)=>decide (k=[Sum.inr x.name,Sum.inl x.date])) v3.inp),.box [.int .u8 k,.str r,.str nm,.i d,.sl sub.length 5 (Ex.exG sub)]]))) ?_;simp only [Tree.holds,zd,inR,lo,hi,aD];have b0:0<sub.length:=by omega
 have b1:1<sub.length:=by omega
 have ev:valN f day k r nm d (Ex.evs f day sub)=ka [] ((sub.getD 0 Ex.nil).ev f day) ((sub.getD 1 Ex.nil).ev f day) (opR k):=by
  unfold valN; rw [aO (by omega),aO (by omega),aO (by omega),aO (by omega),gE b0,gE b1]
 rw [ev] at h2;obtain⟨z0,z1,-⟩:=Xq h2
 have rr:(Ex.mk k r nm d sub).rc f day ⟨ops,inp⟩=((sub.getD 1 Ex.nil).rc f day ((sub.getD 0 Ex.nil).rc f day ⟨ops,inp⟩)).put ⟨k - 1,(((sub.getD 0 Ex.nil).rc f day ⟨ops,inp⟩).ops.length:Int) - 1,(((sub.getD 1 Ex.nil).rc f day ((sub.getD 0 Ex.nil).rc f day ⟨ops,inp⟩)).ops.length:Int) - 1,[]⟩:=by
  rw [rcX];unfold rcN;rw [aO (by omega),aO (by omega),aO (by omega),aO (by omega),aO (by omega),aO (by omega),gR b0,gR b1]
 have w:=JW hl;have wx:(Ex.mk k r nm d sub).size=1+Ex.zR sub:=Ex.size_eq _;have n0:=zew f day _ (sub.getD 0 Ex.nil) (aJ _) ⟨ops,inp⟩;have n1:=zew f day _ (sub.getD 1 Ex.nil) (aJ _) ((sub.getD 0 Ex.nil).rc f day ⟨ops,inp⟩);simp only at n0;refine⟨⟨by decide,by omega⟩,λ_=>⟨⟨sub.getD 0 Ex.nil,⟨ops,inp⟩,day,f,c⟩,⟨⟨⟨rfl,rfl⟩,⟨⟨rfl,rfl⟩,rfl,rfl,⟨rfl,rfl⟩,⟨rfl,rfl,Ex.qW _⟩,trivial⟩,trivial⟩,by simp [fxS,chS,za],trivial,pre b0 s0 z0 _ (by have:=dle b0; show ops.length<=_; omega) (by have:=dle b0; show inp.length<=_; omega)⟩,⟨(),trivial⟩,λ_ _=> ?_⟩⟩;generalize (sub.getD 0 Ex.nil).rc f day ⟨ops,inp⟩=t0 at n0 n1 rr ⊢;refine⟨⟨by decide,by omega⟩,λ_=>⟨⟨sub.getD 1 Ex.nil,t0,day,f,c⟩,⟨⟨⟨rfl,rfl⟩,⟨⟨rfl,rfl⟩,rfl,rfl,⟨rfl,rfl⟩,⟨rfl,rfl,Ex.qW _⟩,trivial⟩,trivial⟩,by simp [fxS,chS,za],trivial,pre b1 s1 z1 _ (by omega) (by omega)⟩,⟨(),trivial⟩,λ_ _=> ?_⟩⟩;generalize (sub.getD 1 Ex.nil).rc f day t0=t1 at n1 rr ⊢;refine⟨⟨t1,day,f,c,⟨k - 1,(t0.ops.length:Int) - 1,(t1.ops.length:Int) - 1,[]⟩⟩,⟨by simp,by simp [fxS,chS,za],trivial,by show t1.ops.length<_; omega⟩,⟨(),trivial⟩,λ_ _=> ?_⟩;rw [rr] at hq;rw [show(((t1.put ⟨k - 1,(t0.ops.length:Int) - 1,(t1.ops.length:Int) - 1,[]⟩).ops.length:Nat):Int) - 1=t1.ops.length by simp [RS.put]] at hq;refine RetR.keep [0,1,2,3] rfl (by simp) (by show ∀ j,j<4->_; decide) rfl hq (by simp [resV,exp2,exp1,exp0,ren0,eqA2,eqL1]) ?_ rfl;refine⟨?_,⟨rfl,rfl,za _ _ _⟩,⟨rfl,rfl,za _ _ _⟩,⟨⟨rfl,.inl rfl⟩,rfl,λ_=>rfl,λ_ _=>rfl⟩,trivial⟩;simp [expB,exp1,exp0,ren0,zz,fxS,chS,za]
def brxA:Ctr:=ctrM 1 (λp:XEx=>[.ptr 0 0,p.x.exA]) (λp=>HRc p.s p.day p.f p.c) XEx.pre (λ_ (_:Unit)=>True)
 (λp _=>(.i (((p.x.rc p.f p.day p.s).ops.length:Int) - 1),HRc (p.x.rc p.f p.day p.s) p.day p.f p.c))
theorem zk3:zc prog 29 brxA:=by
 have all:∀ n,zc prog 29 (brxC n):=by
  intro n
  induction n with
  | zero=>
   intro args hc Q hq _;obtain⟨x,⟨_,_,_,h,_⟩,_⟩:=hq;exact absurd h (Nat.not_lt_zero _)
  | succ n ih=>exact zf4 n ih
 intro args hc Q hq hf;obtain⟨x,⟨h1,h2,h3,h4⟩,h5⟩:=hq;exact all (x.x.size+1) args hc Q ⟨x,⟨h1,h2,h3,Nat.lt_succ_self _,h4⟩,h5⟩ hf
end Go.Proofs.Tryz
end
section
namespace Go.Nov
open Go.Sx
theorem Jt{x:Ex}{day:Int}{f:List Fx}{c:List Ch}(h:(zW x day f c).2=0):(x.zx=1/\(x.ev f day).e=0/\x.size<=500/\x.depth<=60)/\errE f c=0/\dayB day=true:=by
 unfold zW at h;by_cases g:askE x 1 day f c=0
 ·rw [aO (λq=>q g)] at h;obtain⟨g1,g2,g3,g4⟩:=QB g;unfold Ex.errX at g1;by_cases q:500<x.size\/60<x.depth
  ·rw [aP q] at g1; exact absurd g1 (by decide)
  ·by_cases z:(x.ev f day).e=0
   ·exact⟨⟨g2,z,by omega,by omega⟩,g3,g4⟩
   ·rw [aP z] at h; exact absurd h z
 ·rw [aP g] at h; exact absurd h g
def recV(x:Ex)(day:Int)(f:List Fx)(c:List Ch):RS×Int:=if(zW x day f c).2=0 then(recS f day x,0) else(⟨[],[]⟩,(zW x day f c).2)
end Go.Nov
end
section
namespace Go.Sx
variable [Stat]
section
variable {O:Nat->Prop} {pin:Nat} {w0:World} {I0:List SE} {w:World} {σ:List SE} {P:Program} {st:St} {a:Act} {fn:Func} {Xp:List PanicEntry->Prop}
def zeu(K:List Nat)(h:Heap):Blk->Blk
 | .box cs=>.box (cs.map (vG K h))
 | b=>b
def Qs(K:List Nat)(h:Heap):Heap:=h.map (zeu K h)
theorem J1(i:Nat):∀ (K:List Nat) (h:Heap),(zu K h)[i]?=(h[i]?).map λb=>K.foldl (λb i=>J5 i b) b
 | [],h=>by simp [zu]
 | j::K,h=>by
  rw [zu,J1 i K];simp only [aN,Option.map_map,List.foldl_cons];rfl
theorem Jn{b:Blk}(hb:∀ cs,b≠.box cs):∀ K:List Nat,K.foldl (λb i=>J5 i b) b=b
 | []=>rfl
 | j::K=>by
  have:J5 j b=b:=by
   cases b with
   | box cs=>exact absurd rfl (hb cs)
   | _=>rfl
  rw [List.foldl_cons,this,Jn hb K]
theorem UE{h:Heap}(hg:Good O w σ)(hh:HRep (Own O σ) w σ h)(K:List Nat):HRep (Own O (frzS K σ)) w (frzS K σ) (ja K (Qs K h)):=by
 have h0:=kj hh K;refine⟨?_,h0.inj,h0.lt,λi e b he hb=> ?_⟩
 ·have:(ja K (Qs K h)).length=(ja K (zu K h)).length:=by
   have e1:(zu K h).length=h.length:=by
    have:∀ (K:List Nat) (h:Heap),(zu K h).length=h.length:=by
     intro K
     induction K with
     | nil=>intro h; rfl
     | cons j K ih=>intro h; rw [zu,ih]; simp
    exact this K h
   simp [ja,Qs,e1]
  rw [this];exact h0.len
 ·rw [qR] at hb;simp only [Qs,aN] at hb;cases hi:h[i]? with
  | none=>simp [hi] at hb
  | some b0=>
   simp only [hi,Option.map_some,aE] at hb;by_cases hk:K.contains i=true
   ·rw [aP hk] at hb; subst hb; trivial
   ·rw [aO hk] at hb
    have hget:(ja K (zu K h))[i]?=some (K.foldl (λb i=>J5 i b) b0):=by
     rw [qR,J1,hi];simp only [Option.map_some];rw [aO hk]
    by_cases hx:∃ cs,b0 = .box cs
    ·obtain⟨cs,rfl⟩:=hx;subst hb
     have he':σ[i]?=some e:=by
      rw [qM] at he;cases hs:σ[i]? with
      | none=>simp [hs] at he
      | some f=>
       simp only [hs,Option.map_some,aE] at he;rw [aO (by simpa using hk)] at he;rw [he]
     have hb0:=hh.blk i e _ he' hi;simp only [zeu,BRep] at hb0 ⊢;obtain⟨ad,vs,el,h1,h2,h3,h4⟩:=hb0;exact⟨ad,vs,el,h1,h2,h3,jN (λa _ v hr=>yf hg hh hr) h4⟩
    ·have hflat:∀ cs,b0≠.box cs:=λcs he=>hx ⟨cs,he⟩
     have e2:zeu K h b0=b0:=by
      cases b0 with
      | box cs=>exact absurd rfl (hflat cs)
      | _=>rfl
     rw [Jn hflat] at hget;rw [e2] at hb;subst hb;exact h0.blk i e _ he hget
def XC(K:List Nat)(st:St):St:=⟨st.tmps.map (vG K st.heap),ja K (Qs K st.heap)⟩
theorem zem(hm:Mod O pin w0 I0 w σ st a){K:List Nat}(hK:∀ i∈K,pin<=i)(hno:st.tmps.all qg=true):Mod O pin w0 I0 w (frzS K σ) (XC K st) a:=by
 have h1:=zfw hm hK hno;exact⟨h1.good,UE hm.good hm.hp K,h1.size,h1.tm,h1.df,h1.since,h1.lim⟩
theorem zb.zg2{M:Option Nat}{Hs:Nat->KV->Heap->Prop}{R:List AV->Heap->Prop}{k:List Item}{kv:KV}{h:Heap}(K:List Nat)(hK:∀ i∈K,pin<=i)(hno:(pk fn.ntmps kv).all qg=true)
  (H:zZ Xp M P fn O pin w0 I0 Hs R k (mk fn.ntmps (YG K h kv) (ja K (Qs K h)))):zZ Xp M P fn O pin w0 I0 Hs R k (mk fn.ntmps kv h):=by
 intro w σ a hm;have h1:=zem hm hK hno
 have e:XC K (mk fn.ntmps kv h)=mk fn.ntmps (YG K h kv) (ja K (Qs K h)):=by
  simp only [XC,mk,pk,List.map_map];congr 1;apply List.map_congr_left;intro t _;simp only [Function.comp_apply,zde]
 rw [e] at h1;exact H w _ a h1
end
end Go.Sx
end
section
namespace Go.Sx
variable [Stat]
variable {P:Program} {fn:Func} {Xp:List PanicEntry->Prop}
end Go.Sx
end
section
namespace Go.Sx
variable [Stat]
end Go.Sx
end
section
namespace Go.Sx
variable [Stat]
section
variable {F:Fence} {n:Nat} {P:Program} {ops:Array Oper} {Q Q':Exit->Act->World->Prop}
end
theorem LeA.tup{l m:List AV}(h:LeL l m):LeA (.tup l) (.tup m):=by
 intro own w σ v hr;simp only [Rep] at hr ⊢;obtain⟨vs,hv,hr⟩:=hr;exact⟨vs,hv,h.rep hr⟩
section
variable {P:Program} {ops:Array Oper} {rest:List Oper} {o:Oper} {a:Act} {w w':World} {Q:Exit->Act->World->Prop}
end
end Go.Sx
end
section
set_option maxRecDepth 100000
open Go Go.Sx Go.Proofs Go.Nov
namespace Go.Proofs.Tryz
attribute [local simp] eqKV eqA eqA0 eqH eqB eqL eqL0
def recC:Ctr:=ctrP false (λk:VI=>[k.x.exA,.i k.day,envA k.f k.c]) VI.ok (λk r=>r=recV k.x k.day k.f k.c) (λ_ (r:RS×Int)=>(.tup [.agg [.i r.1.inp.length,.sl r.1.ops.length 4 (opG r.1.ops)],.sl r.1.inp.length 3 (fxG r.1.inp),.i r.2],[]))
noncomputable def LRc:List Go.Sx.Item:=yk 5 (f10.body.getD .skip)
def SRc1:KV:=[(3,.ptr 0 0),(6,.ptr 2 0),(7,.nils),(8,.i 0),(11,.ptr 4 0)]
def HRc0(x:Ex)(f:List Fx)(c:List Ch):Heap:=[.box [.int .u8 x.kind,.str x.rat,.str x.name,.i x.date,.sl x.sub.length 5 (Ex.exG x.sub)],.box [.sl f.length 3 (fxG f),.sl c.length 4 (chG c)],.box [.i 0,.nils]]
def HRc1(x:Ex)(day:Int)(f:List Fx)(c:List Ch):Heap:=HRc0 x f c++[.map true [.inr false,.inl .i64] (Jm []) (zat []),.box [.i 0,.nils,.nils,.omap 3,.i day,fxS f,chS c]]
def HRc2(x:Ex)(day:Int)(f:List Fx)(c:List Ch)(s:RS):Heap:=HRc0 x f c++[.map true [.inr false,.inl .i64] (Jm s.inp) (zat s.inp),.box [.i s.inp.length,.osl 5 4 0 s.ops.length,.osl 6 3 0 s.inp.length,.omap 3,.i day,fxS f,chS c],.arr s.ops.length 4 (opG s.ops),.arr s.inp.length 3 (fxG s.inp)]
noncomputable def GRvB:=tb ZE (tb zk3 tz)
theorem U3:zc prog 10 recC:=by
 refine zg' f10 λk hk O w0 Q hq=> ?_
 obtain⟨x,day,f,c⟩:=k;obtain⟨h1,h2,h3⟩:=hk;replace hq:=hq _ rfl;simp only at h1 h2 h3 hq;refine zb.spine 5 ?_;refine zb.cutL (ι:={u:Unit // (zW x day f c).2=0}) LRc 3 0 (λ_=>SRc1) (λ_=>HRc1 x day f c) (by kernel_rfl) (by kernel_rfl) ?_ λ⟨_,hv⟩=> ?_
 ·refine zb.n GRvB.h [3,6,7,8,11] (let v2:List AV:=[.sl f.length 3 (fxG f),.sl c.length 4 (chG c)];let v1:List AV:=[.int .u8 x.kind,.str x.rat,.str x.name,.i x.date,.sl x.sub.length 5 (Ex.exG x.sub)];.ex (q42 [.agg [.int .u8 x.kind,.str x.rat,.str x.name,.i x.date,.sl x.sub.length 5 (Ex.exG x.sub)],.i day,.agg [.sl f.length 3 (fxG f),.sl c.length 4 (chG c)]]) λn=>.all (λ(r:L8×Int)=>r=zW n.x n.day n.f n.c) λn=>.N (n.2=0) (.R [.agg [.i 0,.nils],.nils,.i n.2] [.box v1,.box v2,.box [.i 0,.nils]]) (.leaf (.back 0 [(3,.ptr 0 0),(6,.ptr 2 0),(7,.nils),(8,.i 0),(11,.ptr 4 0)] [.box v1,.box v2,.box [.i 0,.nils],Blk.map true [Sum.inr false,Sum.inl .i64] xT yv,.box [.i 0,.nils,.nils,.omap 3,.i day,.sl f.length 3 (fxG f),.sl c.length 4 (chG c)]]))) ?_;simp only [q42,Tree.holds,zd];refine⟨⟨x,day,f,c⟩,⟨⟨⟨⟨rfl,rfl⟩,rfl,rfl,⟨rfl,rfl⟩,⟨rfl,rfl,za _ _ _⟩,trivial⟩,⟨rfl,rfl⟩,⟨⟨rfl,rfl,za _ _ _⟩,⟨rfl,rfl,za _ _ _⟩,trivial⟩,trivial⟩,h1,h2,h3⟩,⟨_,rfl⟩,?_⟩;intro v hv;replace hv:v=zW x day f c:=hv;refine⟨λg=> ?_,λg=> ?_⟩
  ·have g:¬ v.2=0:=by simpa using g
   rw [hv] at g;rw [show recV x day f c=(⟨[],[]⟩,(zW x day f c).2) by unfold recV; rw [aO g]] at hq;rw [hv];exact RetR.le0 hq (λh=>by cases h) (LeA.tup ⟨LeA.agg ⟨LeA.refl _,LeA.nils,trivial⟩,LeA.nils,LeA.refl _,trivial⟩)
  ·have g:v.2=0:=by simpa using g
   rw [hv] at g;rw [aP trivial];refine⟨⟨(),g⟩,by simp [SRc1],?_,by kernel_rfl,aI _⟩;refine⟨by simp [za],by simp [za],by simp [za],⟨⟨rfl,.inl rfl⟩,rfl,λ_=>rfl,λ_ h=>by cases h⟩,by simp [fxS,chS,za],trivial⟩
 show xc none prog f10 O 0 w0 [] _ _ (LRc.drop 3) _;refine zb.zix 4 1 4 (opG []) rfl rfl (by kernel_rfl) ?_;refine zb.zix 4 2 3 (fxG []) rfl rfl (by kernel_rfl) ?_;refine zb.cutL (ι:=Unit) (LRc.drop 3) 2 0 (λ_=>SRc1) (λ_=>HRc2 x day f c (recS f day x)) (by kernel_rfl) (by kernel_rfl) ?_ λ_=> ?_
 ·refine zb.n GRvB.h [3,6,7,8,11] (.ex (λ(x_1:XEx)=>let v3:=RS.ops x_1.s;let v2:=RS.inp x_1.s;eqL [.ptr 0 0,.agg [.int .u8 x.kind,.str x.rat,.str x.name,.i x.date,.sl x.sub.length 5 (Ex.exG x.sub)]] [.ptr 0 0,.agg [.int .u8 (Ex.kind x_1.x),.str (Ex.rat x_1.x),.str (Ex.name x_1.x),.i (Ex.date x_1.x),.sl (List.length (Ex.sub x_1.x)) 5 (Ex.exG (Ex.sub x_1.x))]]/\eqH [.box [.i 0,.osl 1 4 0 0,.osl 2 3 0 0,AV.omap 3,.i day,.sl f.length 3 (fxG f),.sl c.length 4 (chG c)],.arr 0 4 (opG []),.arr 0 3 (fxG []),Blk.map true [Sum.inr false,Sum.inl .i64] (λ(k:List Sc)=>List.any [] λ(x:Fx)=>decide (k=[Sum.inr x.name,Sum.inl x.date])) λk=>AV.int .i64 ↑(List.findIdx (λ(x:Fx)=>decide (k=[Sum.inr x.name,Sum.inl x.date])) [])] [.box [.i 0,.osl 1 4 0 (List.length v3),.osl 2 3 0 (List.length v2),AV.omap 3,.i x_1.day,.sl x_1.f.length 3 (fxG x_1.f),.sl x_1.c.length 4 (chG x_1.c)],.arr (List.length v3) 4 (opG v3),.arr (List.length v2) 3 (fxG v2),Blk.map true [Sum.inr false,Sum.inl .i64] (λ(k:List Sc)=>List.any v2 λx=>decide (k=[Sum.inr x.name,Sum.inl x.date])) λk=>AV.int .i64 ↑(List.findIdx (λ(x:Fx)=>decide (k=[Sum.inr x.name,Sum.inl x.date])) v2)]/\4=4/\XEx.pre x_1) λn=>let v1:=Ex.rc n.f n.day n.x n.s;.A λn_1=>.leaf (.back 0 [(3,.ptr 0 0),(6,.ptr 2 0),(7,.nils),(8,.i 0),(11,.ptr 4 0)] [.box [.int .u8 x.kind,.str x.rat,.str x.name,.i x.date,.sl x.sub.length 5 (Ex.exG x.sub)],.box [.sl f.length 3 (fxG f),.sl c.length 4 (chG c)],.box [.i 0,.nils],Blk.map true [Sum.inr false,Sum.inl .i64] (λ(k:List Sc)=>List.any v1.inp λx=>decide (k=[Sum.inr x.name,Sum.inl x.date])) λk=>.int .i64 ↑(List.findIdx (λ(x:Fx)=>decide (k=[Sum.inr x.name,Sum.inl x.date])) v1.inp),.box [.int .i64 ↑(List.length v1.inp),.osl 5 4 0 (List.length v1.ops),.osl 6 3 0 (List.length v1.inp),.omap 3,.i n.day,.sl n.f.length 3 (fxG n.f),.sl n.c.length 4 (chG n.c)],.arr (List.length v1.ops) 4 (opG v1.ops),.arr (List.length v1.inp) 3 (fxG v1.inp)])) ?_;simp only [Tree.holds,zd];obtain⟨⟨g1,g2,g3,g4⟩,g5,g6⟩:=Jt hv;have e0:x.rc f day ⟨[],[]⟩=recS f day x:=rfl;refine⟨⟨x,⟨[],[]⟩,day,f,c⟩,⟨⟨⟨rfl,rfl⟩,⟨⟨rfl,rfl⟩,rfl,rfl,⟨rfl,rfl⟩,⟨rfl,rfl,za _ _ _⟩,trivial⟩,trivial⟩,by simp [fxS,chS,za],trivial,⟨g1,g2,g3,g4,h2⟩,g5,g6,h3,by show 0+x.size<_; omega,by show 0+x.size<_; omega⟩,⟨(),trivial⟩,λ_ _=> ?_⟩;rw [aP trivial,e0];refine⟨(),by simp [SRc1],?_,by kernel_rfl,aI _⟩;exact⟨by simp [za],by simp [za],by simp [za],⟨⟨rfl,.inl rfl⟩,rfl,λ_=>rfl,λ_ _=>rfl⟩,by simp [fxS,chS,za],⟨rfl,rfl,za _ _ _⟩,⟨rfl,rfl,za _ _ _⟩,trivial⟩
 show xc none prog f10 O 0 w0 [] _ _ ((LRc.drop 3).drop 2) _;generalize hs:recS f day x=s;refine zb.zg2 [5,6] (by simp) (by kernel_rfl) ?_;refine zb.n GRvB.h [3,6,7,8,11] (let v1:List AV:=[.i s.inp.length,.sl s.ops.length 4 (zf (opG s.ops) 0)];.R [.agg v1,.sl s.inp.length 3 (zf (fxG s.inp) 0),.i 0] [.box [.int .u8 x.kind,.str x.rat,.str x.name,.i x.date,.sl x.sub.length 5 (Ex.exG x.sub)],.box [.sl f.length 3 (fxG f),.sl c.length 4 (chG c)],.box v1,Blk.map true [Sum.inr false,Sum.inl .i64] (λ(k:List Sc)=>List.any s.inp λx=>decide (k=[Sum.inr x.name,Sum.inl x.date])) λk=>.int .i64 ↑(List.findIdx (λ(x:Fx)=>decide (k=[Sum.inr x.name,Sum.inl x.date])) s.inp),.box [.i s.inp.length,.sl s.ops.length 4 (zf (opG s.ops) 0),.sl s.inp.length 3 (zf (fxG s.inp) 0),.omap 3,.i day,.sl f.length 3 (fxG f),.sl c.length 4 (chG c)],.dead,.dead]) ?_;simp only [Tree.holds,zd];rw [show recV x day f c=(s,0) by unfold recV; rw [aP hv,hs]] at hq;refine RetR.le0 hq (λh=>by cases h) (LeA.tup ⟨LeA.agg ⟨LeA.refl _,LeA.sl rfl λj o hj ho=> ?_,trivial⟩,LeA.sl rfl λj o hj ho=> ?_,LeA.refl _,trivial⟩)
 ·show LeA (opG s.ops (0+j) o) (opG s.ops j o);rw [Nat.zero_add];exact LeA.refl _
 ·show LeA (fxG s.inp (0+j) o) (fxG s.inp j o);rw [Nat.zero_add];exact LeA.refl _
noncomputable def GQD:=tb Vv (tb KK (tb V0 (tb Y5 tz)))
def zff:Ctr:=ctrP true (λp:L8×L8=>[.str p.1,.str p.2]) (λp=>p.1.length<2^61/\p.2.length<2^61) (λp r=>r=divR p.1 p.2) (λ_ r=>(.tup [.str r.1,.i r.2],[]))
theorem Ux:zc prog 76 zff:=by
 refine zg' f76 λp hp O w0 Q hq=> ?_
 obtain⟨a,b⟩:=p;obtain⟨h1,h2⟩:=hp;replace hq:=hq _ rfl;simp only at h1 h2 hq;refine zb.n GQD.h [] (.ex (q29 [.str a,.str b] []) λn=>.all (λ(r:Pr)=>r=qV n.1 n.2) λn=>.side (decide (Pr.e n=0)=true->(0:Int)<=1/\(1:Int)<2) (.ite (bif decide (Pr.e n=0) then decide (Pr.m n=#[(48:UInt8)].toList) else false) (.R [.str #[].toList,.i 16] [.box [.str n.n,.str n.m,.str n.d,.str n.c,.i n.e]]) (.ex (q30 [.ptr 0 0,.fn 79 [] []] [.box [.str n.n,.str n.m,.str n.d,.str n.c,.i n.e]]) λn=>.A λn_1=>.side ((0:Int)<=0/\(0:Int)<2) (.side ((0:Int)<=1/\(1:Int)<2) (.side ((0:Int)<=0/\(0:Int)<2) (.side ((0:Int)<=1/\(1:Int)<2) (.ex (q31 [.str n.1.n,.str n.1.c,.ptr 0 0,.ptr 2 0] [.box [.ptr 1 0],.box [.str n.1.n,.str n.1.m,.str n.1.d,.str n.1.c,.i n.1.e],.box [.fn (QOp.fn n.2) [] []]]) λn_2=>.all (λ(r:L8×Int)=>r=if Pr.e n_2.p≠0 then([],Pr.e n_2.p) else QOp.op n_2.o n_2.x n_2.y) λn_3=>let v1:=Pr.err n_2.p n_3.2;.side (Pr.m v1=Pr.m n.1) (.side (Pr.d v1=Pr.d n.1) (.ex (q31 [.str n.1.d,.str n.1.m,.ptr 0 0,.ptr 2 0] [.box [.ptr 1 0],.box [.str v1.n,.str v1.m,.str v1.d,.str v1.c,.i v1.e],.box [.fn (QOp.fn n_2.o) [] []]]) λn=>.all (λ(r:L8×Int)=>r=if Pr.e n.p≠0 then([],Pr.e n.p) else QOp.op n.o n.x n.y) λn_4=>let v2:=Pr.err n.p n_4.2;.ex (q32 [.ptr 0 0,.str n_3.1,.str n_4.1] [.box [.str v2.n,.str v2.m,.str v2.d,.str v2.c,.i v2.e]]) λn_5=>.all (λ(r:L8×Int)=>r=if Pr.e n_5.1≠0 then([],Pr.e n_5.1) else jO n_5.2.1 n_5.2.2) λn_6=>.R [.str n_6.1,.i n_6.2] [.box [.str n_5.1.n,.str n_5.1.m,.str n_5.1.d,.str n_5.1.c,.i n_5.1.e],.box [.ptr 0 0],.box [.fn (QOp.fn n.o) [] []]]))))))))) ?_;simp only [q29,q30,q31,q32,Tree.holds,zd];refine⟨(a,b),⟨⟨rfl,rfl,trivial⟩,trivial,by trivial,by show a.length<_; omega,by show b.length<_; omega⟩,⟨_,rfl⟩,?_⟩;intro p hp;have hc:=wH a b;obtain⟨l1,l2,l3,l4⟩:=kf a b;rw [<- hp] at hc l1 l2 l3 l4;have h0:(decide (p.e=0)=true->0<=1/\(1:Int)<2):=λ_=>by decide
 refine⟨λ_=>by decide,λ_=>⟨λh=> ?_,λh=> ?_⟩⟩
 ·have he:p.e=0:=bM λg=>by rw [aW g] at h; cases h
  rw [aX he] at h;have hm:p.m=[48]:=aB h
  have e:divR a b=([],16):=by
   rcases hc with ⟨g,_⟩ | ⟨_,g1,g2,_,g3,_⟩
   ·exact absurd he g
   ·unfold divR qA;rw [aP g1,g2,aO (by simp),aP (by rw [<- g3]; exact hm)]
  rw [e] at hq;exact RetR.scal hq rfl (by simp [resV])
 have hne:p.e=0->p.m≠[48]:=λhe g=>by
  rw [aX he,aX g] at h;cases h
 refine⟨(p,.mul),⟨kx_k _,kx_b p,by trivial,trivial⟩,⟨(),trivial⟩,?_⟩;intro _ _
 iterate 4 refine⟨by decide,λ_=> ?_⟩
 refine⟨⟨p,.mul,p.n,p.c⟩,⟨kx_l _ _,kx_h (p) _,by trivial,by show(p.n).length<_; omega,⟨by show(p.c).length<_; omega,trivial⟩⟩,⟨_,rfl⟩,?_⟩;intro r1 hr1;have kr1:=zY _ _ _ _ hr1
 iterate 2 refine⟨rfl,λ_=> ?_⟩
 refine⟨⟨p.err r1.2,.mul,p.d,p.m⟩,⟨kx_l _ _,kx_h (p.err r1.2) _,by trivial,by show(p.d).length<_; omega,⟨by show(p.m).length<_; omega,trivial⟩⟩,⟨_,rfl⟩,?_⟩;intro r2 hr2;have kr2:=zY _ _ _ _ hr2;refine⟨((p.err r1.2).err r2.2,r1.1,r2.1),⟨kx_m _ _,kx_b _,by trivial,by show(r1.1).length<_; omega,by show(r2.1).length<_; omega⟩,⟨_,rfl⟩,?_⟩;intro r3 hr3
 have hv:errR a=0->errR b=0->zr p.n p.c=0/\zr p.d p.m=0:=by
  intro ha hb;obtain⟨a1,a2,_⟩:=qo ha;obtain⟨b1,b2,_⟩:=qo hb;rcases hc with ⟨g1,g2⟩ | ⟨_,_,_,g1,g2,g3,g4⟩
  ·exact absurd g2 (by unfold qA; rw [aP ha,hb]; exactλh=>g1 h.symm)
  ·rw [g1,g2,g3,g4]; exact⟨zl.2 ⟨a1,b2⟩,zl.2 ⟨a2,b1⟩⟩
 have hfin:=Wb hc hr1 hr2 hr3 hv
 have e:r3=divR a b:=by
  rw [hfin];unfold divR;rcases hc with ⟨g1,g2⟩ | ⟨g0,_,_,g1,g2,g3,g4⟩
  ·rw [aP (by rw [g2]; exact g1),aP (by rw [g2]; exact g1)]
  ·rw [<- g1,<- g2,<- g3,<- g4,aO (hne g0)]
 rw [<- e] at hq;exact RetR.scal hq rfl (by simp [resV])
end Go.Proofs.Tryz
end
section
namespace Go.Sx
variable [Stat]
section
variable {P:Program}
theorem J8(a:AV):eqA0 a a:=by
 cases a<;>simp [eqA0]
 exactλ_ _ _ _=>rfl
theorem uD:∀ l:List AV,eqL0 l l
 | []=>trivial
 | a::l=>⟨J8 a,uD l⟩
theorem ze0(a:AV):eqA a a:=by
 cases a with
 | agg l=>exact uD l
 | tup l=>exact uD l
 | _=>unfold eqA; exact J8 _
theorem ZO:∀ l:List AV,eqL l l
 | []=>trivial
 | a::l=>by
  unfold eqL;split
  ·rename_i h1 h2; cases h1
  ·rename_i h1 h2; cases h1; cases h2; exact ZO l
  ·rename_i h1 h2; cases h1; cases h2; exact⟨ze0 _,ZO l⟩
  ·rename_i hx; exact(hx _ _ _ _ rfl rfl).elim
end
end Go.Sx
end
section
namespace Go.Sx
variable [Stat]
section
variable {P:Program} {Γ:Nat->Option Ctr} {fn:Func}
def inlC(P:Program)(Γ:Nat->Option Ctr)(n:Nat)(fn:Func):Ctr where
 fresh:=false
 spec args hc:=match fn.body with
  | some c=>(run P Γ hc.length n [.code c] (vV fn args hc)).bind λlf=>match lf with
   | .ret st=>(resX P st fn.results.toList).bind λrs=>bif decide (hc.length<=st.heap.length) then .leaf (exp2 st.heap (List.range st.heap.length) (resV rs),expH st.heap (List.range st.heap.length)) else .fail
   | _=>.fail
  | none=>.fail
theorem nodup_range':∀ (n s:Nat),w9 (List.range' s n)=true
 | 0,_=>rfl
 | n+1,s=>by
  rw [List.range'_succ];simp only [w9,bA];refine⟨?_,nodup_range' n (s+1)⟩;simp [bX,List.mem_range'_1]
theorem U9(b:Blk):eqB b b:=by
 cases b with
 | dead=>trivial
 | box l=>exact ZO l
 | arr n sz g=>exact⟨rfl,rfl,λ_ _ _ _=>rfl⟩
 | arrI k n f=>exact⟨rfl,λ_ _ _ _=>rfl⟩
 | arrS n f=>exact⟨rfl,λ_ _ _ _=>rfl⟩
 | map ag sh has get pe=>exact⟨⟨rfl,.inr rfl⟩,rfl,λ_=>rfl,λ_ _=>rfl⟩
theorem za7(h:Heap):eqH h h:=by
 induction h with
 | nil=>trivial
 | cons b l ih=>exact⟨U9 b,ih⟩
theorem xu{g n:Nat}(hmix:P.follows .mixedOrders=true)(hΓ:∀ g c,Γ g=some c->zc P g c)(hf:P.funcs[g]?=some fn) (hn:(fn.name == "runtime.NumGoroutine")=false):zc P g (inlC P Γ n fn):=by
 intro args hc Q hq hfr;simp only [inlC] at hq;cases hb:fn.body with
 | none=>rw [hb] at hq; exact hq.elim
 | some c=>
  rw [hb] at hq;simp only [Tree.zn] at hq;refine uv.plain (zi9 hf hb hn hfr λO w0 I0 hl=>Safe.run hmix (λg c h=>(hΓ g c h).x) n (Tree.zO (λlf h=> ?_) hq));cases lf with
  | ret st=>
   simp only [Tree.zn] at h;refine Tree.zO (λrs h=> ?_) h;cases hd:decide (hc.length<=st.heap.length) with
   | false=>rw [hd] at h; exact h.elim
   | true=>
    rw [hd] at h;have h:Q (exp2 st.heap (List.range st.heap.length) (resV rs),expH st.heap (List.range st.heap.length)):=h;have hd:=aB hd;exact⟨List.range st.heap.length,by rw [List.range_eq_range']; exact nodup_range' _ _,λi hi=>List.mem_range.1 hi,λj hj=>by rw [List.getElem?_range (by omega)],λh=>(by cases h),_,_,LeA.refl _,.inl (za7 _),by simp [expH],h⟩
  | _=>exact h.elim
end
end Go.Sx
end
section
set_option maxRecDepth 100000
open Go Go.Sx Go.Proofs Go.Nov
namespace Go.Proofs.Tryz
attribute [local simp] eqKV eqA eqA0 eqH eqB eqL eqL0
noncomputable def K20:=Go.Sx.aA f20
noncomputable def bwI:Ctr:=inlC prog noG 100 f38
theorem Y9:zc prog 38 bwI:=xu hmix z6 rfl rfl
def ze7(o:TOp):Prop:=o.rat.length<2^60
def qi(t:Tp):Prop:=t.ops.length<2^60/\∀ j,j<t.ops.length->ze7 (t.ops.getD j TOp.nil)
def Zw:Ctr:=ctrP true (λt:Tp=>[t.av]) qi (λt r=>r=zh t) (λ_ (r:Int)=>(.i r,[]))
def SBc(ops:List TOp)(ok:Bool)(i:Nat):KV:=[(1,.ptr 0 0),(3,.bool ok),(25,opS ops),(26,.i (ops.length:Int)),(27,.i (i:Int)),Z 38,Z 39,Z 40,Z 41,Z 42,Z 45,Z 46,Z 47,Z 48,Z 49,Z 50,Z 51,Z 57,Z 58,Z 59,Z 60,Z 63,Z 64,Z 65,Z 68,Z 69,Z 70,Z 79,Z 80,Z 81,Z 82,Z 85,Z 86,Z 87,Z 88,Z 91,Z 92,Z 93]
def HBc(n:Int)(ops:List TOp):Heap:=[.box [.i n,opS ops]]
noncomputable def GT1:=tb Y9 (tb w8 tz)
theorem uy:zc prog 20 Zw:=by
 refine zg' f20 λp hp O w0 Q hq=> ?_
 obtain⟨n,ops⟩:=p;obtain⟨h1,h2⟩:=hp;replace hq:=hq _ rfl;simp only at h1 h2 hq;refine zb.n GT1.h [1,3,25,26,27,38,39,40,41,42,45,46,47,48,49,50,51,57,58,59,60,63,64,65,68,69,70,79,80,81,82,85,86,87,88,91,92,93] (let v1:List Blk:=[.box [.i n,.sl ops.length 4 (opG ops)]];.D ((500:Int)<ops.length) (.R [.i 4] v1) (.leaf (.loop (lps K20 0).1 (lps K20 0).2 [(1,.ptr 0 0),(3,.bool (bif bif decide ((0:Int)<=n) then decide (n<=500) else false then decide ((0:Int)<ops.length) else false)),(25,.sl ops.length 4 (opG ops)),(26,.i ops.length),(27,.i 0),Z 38,Z 39,Z 40,Z 41,Z 42,Z 45,Z 46,Z 47,Z 48,Z 49,Z 50,Z 51,Z 57,Z 58,Z 59,Z 60,Z 63,Z 64,Z 65,Z 68,Z 69,Z 70,Z 79,Z 80,Z 81,Z 82,Z 85,Z 86,Z 87,Z 88,Z 91,Z 92,Z 93] v1))) ?_;simp only [Tree.holds,zd];refine⟨λh=> ?_,λh=> ?_⟩
 ·have h:500<ops.length:=by have:=aB h; omega
  have e:zh ⟨n,ops⟩=4:=by unfold zh; rw [aP h]
  rw [e] at hq;exact RetR.scal hq rfl (by simp [resV])
 have hl:¬ 500<ops.length:=by have:=aC h; omega
 refine zb.loop (ι:={i:Nat // i<=ops.length}) (λi=>SBc ops (Zi ⟨n,ops⟩&&wS ⟨n,ops⟩ i.1) i.1) (λ_=>HBc n ops) (λi=>ops.length - i.1) ⟨0,aI _⟩ 0 ?_ ?_ (by kernel_rfl)
 ·refine⟨?_,by simp [HBc,opS,za],by kernel_rfl,aI _⟩;simp [SBc,opS,za,Zi,wS]
 ·rintro⟨i,hil⟩;obtain⟨ok,hok⟩:∃ ok,(Zi ⟨n,ops⟩&&wS ⟨n,ops⟩ i)=ok:=⟨_,rfl⟩;simp only [hok];refine zb.n GT1.h [1,3,25,26,27,38,39,40,41,42,45,46,47,48,49,50,51,57,58,59,60,63,64,65,68,69,70,79,80,81,82,85,86,87,88,91,92,93] (let v6:List AV:=[.i n,.sl ops.length 4 (opG ops)];let v5:=inR .i64 (i+1);let v3:=ops.getD (i:Int).toNat TOp.nil;let v9:=decide (TOp.kind v3=(5:Int));let v8:=decide (TOp.kind v3=(4:Int));let v7:=decide (TOp.kind v3=(3:Int));let v4:List Blk:=[.box v6,.box [.int .u8 v3.kind,.i v3.a,.i v3.b,.str v3.rat]];let v2:we:=.back 0 [(1,.ptr 0 0),(3,.bool false),(25,.sl ops.length 4 (opG ops)),(26,.i ops.length),(27,.i (i+1)),Z 38,Z 39,Z 40,Z 41,Z 42,Z 45,Z 46,Z 47,Z 48,Z 49,Z 50,Z 51,Z 57,Z 58,Z 59,Z 60,Z 63,Z 64,Z 65,Z 68,Z 69,Z 70,Z 79,Z 80,Z 81,Z 82,Z 85,Z 86,Z 87,Z 88,Z 91,Z 92,Z 93] v4;let v1:we:=.back 0 [(1,.ptr 0 0),(3,.bool (bif bif bif ok then bif decide ((0:Int)<=TOp.a v3) then decide (TOp.a v3 <(i:Int)) else false else false then bif decide ((0:Int)<=TOp.b v3) then decide (TOp.b v3 <(i:Int)) else false else false then decide (TOp.rat v3=#[].toList) else false)),(25,.sl ops.length 4 (opG ops)),(26,.i ops.length),(27,.i (i+1)),Z 38,Z 39,Z 40,Z 41,Z 42,Z 45,Z 46,Z 47,Z 48,Z 49,Z 50,Z 51,Z 57,Z 58,Z 59,Z 60,Z 63,Z 64,Z 65,Z 68,Z 69,Z 70,Z 79,Z 80,Z 81,Z 82,Z 85,Z 86,Z 87,Z 88,Z 91,Z 92,Z 93] v4;.D ((i:Int)<ops.length) (.side ((0:Int)<=i/\(i:Int)<ops.length) (.D (TOp.kind v3=(1:Int)) (.side v5 (.leaf (.back 0 [(1,.ptr 0 0),(3,.bool (bif bif ok then bif decide ((0:Int)<=TOp.a v3) then decide (TOp.a v3 <n) else false else false then decide (TOp.kind v3=TOp.kind v3)&&(decide (TOp.a v3=TOp.a v3)&&(decide (TOp.b v3=(0:Int))&&(decide (TOp.rat v3=#[].toList)&&true))) else false)),(25,.sl ops.length 4 (opG ops)),(26,.i ops.length),(27,.i (i+1)),Z 38,Z 39,Z 40,Z 41,Z 42,Z 45,Z 46,Z 47,Z 48,Z 49,Z 50,Z 51,Z 57,Z 58,Z 59,Z 60,Z 63,Z 64,Z 65,Z 68,Z 69,Z 70,Z 79,Z 80,Z 81,Z 82,Z 85,Z 86,Z 87,Z 88,Z 91,Z 92,Z 93] v4))) (.D (TOp.kind v3=(2:Int)) (.ex (λ(x:L8)=>ok=true->q15 [.str v3.rat] x) λn_1=>.all (λ(x:Int)=>ok=true->x=errR n_1) λn_2=>.side v5 (.leaf (.back 0 [(1,.ptr 0 0),(3,.bool (bif bif bif ok then decide (n_2=0) else false then decide (TOp.a v3=(0:Int)) else false then decide (TOp.b v3=(0:Int)) else false)),(25,.sl ops.length 4 (opG ops)),(26,.i ops.length),(27,.i (i+1)),Z 38,Z 39,Z 40,Z 41,Z 42,Z 45,Z 46,Z 47,Z 48,Z 49,Z 50,Z 51,Z 57,Z 58,Z 59,Z 60,Z 63,Z 64,Z 65,Z 68,Z 69,Z 70,Z 79,Z 80,Z 81,Z 82,Z 85,Z 86,Z 87,Z 88,Z 91,Z 92,Z 93] v4))) (.ite v7 (.ite v7 (.side v5 (.leaf v1)) (.side v5 (.leaf v2))) (.ite v8 (.ite v8 (.side v5 (.leaf v1)) (.side v5 (.leaf v2))) (.ite v9 (.ite v9 (.side v5 (.leaf v1)) (.side v5 (.leaf v2))) (.D (TOp.kind v3=(6:Int)) (.side v5 (.leaf v1)) (.side v5 (.leaf v2))))))))) (.ite (!ok) (.R [.i 8] [.box v6]) (.R [.i 0] [.box v6]))) ?_;simp only [q15,Tree.holds,zd,inR,lo,hi,aD];refine⟨λhlt=> ?_,λhge=> ?_⟩
  ·have hlt:i<ops.length:=by have:=aB hlt; omega
   have hsm:=h2 i hlt;have hs:(Zi ⟨n,ops⟩&&wS ⟨n,ops⟩ (i+1))=(ok&&okOp n i (ops.getD i TOp.nil)):=by rw [Xm,<- Bool.and_assoc,hok]
   obtain⟨o,ho⟩:∃ o,ops.getD i TOp.nil=o:=⟨_,rfl⟩;rw [ho] at hs hsm;simp only [ho];refine⟨by omega,λ_=> ?_⟩;have hk:(∃ x':{i:Nat // i<=ops.length},x'=⟨i+1,hlt⟩):=⟨_,rfl⟩;refine⟨λk1=> ?_,λk1=>⟨λk2=>⟨o.rat,λ_=>⟨⟨rfl,trivial⟩,by unfold ze7 at hsm; omega⟩,⟨_,λ_=>rfl⟩,λe he=> ?_⟩,λk2=>⟨λk3=>⟨λk3'=> ?_,λk3'=> ?_⟩,λk3=>⟨λk4=>⟨λk4'=> ?_,λk4'=> ?_⟩,λk4=>⟨λk5=>⟨λk5'=> ?_,λk5'=> ?_⟩,λk5=>⟨λk6=> ?_,λk6=> ?_⟩⟩⟩⟩⟩⟩
   all_goals
    refine⟨by omega,λ_=> ?_⟩;rw [aP trivial];refine⟨⟨i+1,hlt⟩,by show ops.length - (i+1)<ops.length - i; omega,?_,by simp [HBc,opS,za],by kernel_rfl,aI _⟩;simp only [hs];clear hs hok hq h2 h1;cases ok<;>simp_all [SBc,opS,za,okOp,Bool.and_assoc]<;>(intros; omega)
  ·have hge:i=ops.length:=by have:=aC hge; omega
   subst hge;have e:zh ⟨n,ops⟩=if ok=true then 0 else 8:=by unfold zh; rw [aO hl,<- hok]
   refine⟨λh=> ?_,λh=> ?_⟩
   ·have h:ok=false:=by simpa using h
    rw [e,h,aO (by decide)] at hq;exact RetR.scal hq rfl (by simp [resV])
   ·have h:ok=true:=by simpa using h
    rw [e,h,aP rfl] at hq;exact RetR.scal hq rfl (by simp [resV])
noncomputable def K49:=Go.Sx.aA f49
noncomputable def bexI:Ctr:=inlC prog noG 100 f83
theorem zjc:zc prog 83 bexI:=xu hmix z6 rfl rfl
noncomputable def bofI:Ctr:=inlC prog noG 100 f84
theorem zjm:zc prog 84 bofI:=xu hmix z6 rfl rfl
def ji(l:List L8):Prop:=l.length<2^60/\∀ j,j<l.length->(l.getD j []).length<2^60
def K8:Ctr:=ctrP true (λp:Tp×List (L8)=>[p.1.av,ratS p.2]) (λp=>zh p.1=0/\(p.2.length:Int)=p.1.n/\allQ p.2) (λp r=>r=runF p.2 p.1.ops []) (λ_ (r:List L8×Int)=>(.tup [.osl 0 1 0 r.1.length,.i r.2],[.arr r.1.length 1 (ratG r.1)]))
theorem zha{l:List (L8)}{v:L8}{n i:Nat}(h:l.length=i):eqG n 1 (updG (ratG l) i 0 [.str v]) (ratG (l++[v])):=by
 intro j o hj ho;have ho:o=0:=by omega
 subst ho;simp only [updG,ratG];by_cases hji:j=i
 ·subst hji; subst h;simp [List.getD]
 ·rw [aO (by simp [hji])];congr 1;simp only [List.getD,bT];split
  ·rfl
  ·rename_i g;rw [aZ (by omega),aZ (by simp; omega)]
theorem zbx(n:Nat):eqG n 1 (wO [.str []]) (ratG []):=by
 intro j o hj ho;have ho:o=0:=by omega
 subst ho;simp [wO,ratG]
def SBr(inp:List L8)(ops:List TOp)(i:Nat):KV:=[(1,ratS inp),(6,.ptr 2 0),(7,.osl 3 1 0 ops.length),(18,opS ops),(19,.i (ops.length:Int)),(20,.i (i:Int))]
def HBr(n:Int)(ops:List TOp)(l:List L8):Heap:=[.box [.i n,opS ops],.dead,.box [.fn 46 [] [],.fn 43 [] [],.fn 48 [] [],.fn 76 [] []],.arr ops.length 1 (ratG l)]
theorem Kh{ctr:Ctr}{Q:AV×Heap->Prop}(e:Int)(h:Heap)(hq:Q (.tup [.osl 0 1 0 ([]:List L8).length,.i e],[.arr ([]:List L8).length 1 (ratG [])])):RetR ctr 0 (upQ Q) [.nils,.i e] h:=by
 refine RetR.out0 (r:=.tup [.nils,.i e]) (.inr ⟨_,[(1,ratG [])],?_,hq⟩) (λ_=>by simp [resV,new2,new1,new0,qe]) (by simp [resV,exp2,exp1,exp0,ren0,eqA2,eqL1]);simp [upA2,upA1,upA0,upL1,upL0]
theorem Kd{n:Nat}{g:Nat->Nat->AV}{l:List (L8)}(h:eqG n 1 g (ratG l)):newB (.arr n 1 g):=by
 intro j o hj ho;rw [h j o hj ho]; rfl
theorem zi4{l:List (L8)}(h:allQ l)(j:Nat):(l.getD j []).length<=2003:=by
 by_cases g:j<l.length
 ·exact zV (jd h g)
 ·simp only [List.getD]; rw [aZ (by omega)]; simp
noncomputable def GT2:=tb zjc (tb zjm (tb yE (tb xL (tb yx (tb Ux tz)))))
theorem Y6:zc prog 49 K8:=by
 refine Vq (fn:=f49) (c:=f49.body.getD .skip) rfl rfl rfl λp hp O w0 Q hq=> ?_
 obtain⟨⟨n,ops⟩,inp⟩:=p;obtain⟨hc,hn,hqi⟩:=hp;replace hq:=hq _ rfl;simp only at hc hn hqi hq;refine zb.n GT2.h [1,6,7,18,19,20] (let v2:=Int.toNat ops.length;let v1:List AV:=[.fn 46 [] [],.fn 43 [] [],.fn 48 [] [],.fn 76 [] []];.side ((0:Int)<=ops.length/\(ops.length:Int)<=ops.length/\inR .i64 ops.length/\Int.toNat ops.length*16<=140737488355328) (.leaf (.loop (lps K49 0).1 (lps K49 0).2 [(1,.sl inp.length 1 (ratG inp)),(6,.ptr 2 0),(7,.osl 3 1 0 v2),(18,.sl ops.length 4 (opG ops)),(19,.i ops.length),(20,.i 0)] [.box [.i n,.sl ops.length 4 (opG ops)],.box v1,.box v1,.arr v2 1 (wO [.str #[].toList])]))) ?_;simp only [Tree.holds,zd];obtain⟨c1,c2,c3,c4,c5⟩:=qF.1 hc;simp only at c1 c2 c3 c4 c5;simp only [inR,lo,hi,aD];refine⟨⟨by omega,by omega,by omega,by omega⟩,λ_=> ?_⟩;refine zb.loop (ι:={p:Nat×List L8 // p.1<=ops.length/\p.2.length=p.1/\allQ p.2/\runF inp (ops.drop p.1) p.2=runF inp ops []}) (λp=>SBr inp ops p.1.1) (λp=>HBr n ops p.1.2) (λp=>ops.length - p.1.1) ⟨(0,[]),aI _,rfl,λx hx=>absurd hx (by simp),by simp⟩ 0 ?_ ?_ (by kernel_rfl)
 ·exact⟨by simp [SBr,ratS,opS,za],⟨by simp [opS,za],trivial,by simp,⟨rfl,rfl,zbx _⟩,trivial⟩,by kernel_rfl,aI _⟩
 rintro⟨⟨i,l⟩,hil,hll,hlq,hlr⟩;simp only at hil hll hlq hlr;refine zb.n GT2.h [1,6,7,18,19,20] (let v8:=inR .i64 (i+1);let v5:List AV:=[.i n,.sl ops.length 4 (opG ops)];let v3:List (Nat×AV):=[(1,.sl inp.length 1 (ratG inp)),(6,.ptr 2 0),(7,.osl 3 1 0 ops.length),(18,.sl ops.length 4 (opG ops)),(19,.i ops.length),(20,.i (i+1))];let v2:List AV:=[.fn 46 [] [],.fn 43 [] [],.fn 48 [] [],.fn 76 [] []];let v1:=ops.getD (i:Int).toNat TOp.nil;let v6:=q36 [.str (l.getD (0+Int.toNat v1.a) []),.str (l.getD (0+Int.toNat v1.b) [])];let v4:List AV:=[.int .u8 v1.kind,.i v1.a,.i v1.b,.str v1.rat];let v7:List Blk:=[.box v5,.dead,.box v2,.arr ops.length 1 (ratG l),.box v4,.box v2];.D ((i:Int)<ops.length) (.side ((0:Int)<=i/\(i:Int)<ops.length) (.D (TOp.kind v1=(1:Int)) (.side ((0:Int)<=TOp.a v1/\TOp.a v1 <(inp.length:Int)) (.side ((0:Int)<=i/\(i:Int)<ops.length) (.side v8 (.leaf (.back 0 v3 [.box v5,.dead,.box v2,.arr ops.length 1 (updG (ratG l) (0+Int.toNat i) 0 [.str (inp.getD (Int.toNat v1.a) [])]),.box v4]))))) (.D (TOp.kind v1=(2:Int)) (.side ((0:Int)<=i/\(i:Int)<ops.length) (.side v8 (.leaf (.back 0 v3 [.box v5,.dead,.box v2,.arr ops.length 1 (updG (ratG l) (0+Int.toNat i) 0 [.str v1.rat]),.box v4])))) (.side ((0:Int)<=TOp.a v1/\TOp.a v1 <(ops.length:Int)) (.side ((0:Int)<=TOp.b v1/\TOp.b v1 <(ops.length:Int)) (.D (TOp.kind v1=(3:Int)) (.ex v6 λn_1=>.all (λ(r:L8×Int)=>r=addR n_1.1 n_1.2) λn_2=>.N (n_2.2=0) (.R [.nils,.i n_2.2] v7) (.side ((0:Int)<=i/\(i:Int)<ops.length) (.side v8 (.leaf (.back 0 v3 [.box v5,.dead,.box v2,.arr ops.length 1 (updG (ratG l) (0+Int.toNat i) 0 [.str n_2.1]),.box v4,.box v2]))))) (.D (TOp.kind v1=(4:Int)) (.ex v6 λn_1=>.all (λ(r:L8×Int)=>r=subR n_1.1 n_1.2) λn_2=>.N (n_2.2=0) (.R [.nils,.i n_2.2] v7) (.side ((0:Int)<=i/\(i:Int)<ops.length) (.side v8 (.leaf (.back 0 v3 [.box v5,.dead,.box v2,.arr ops.length 1 (updG (ratG l) (0+Int.toNat i) 0 [.str n_2.1]),.box v4,.box v2]))))) (.D (TOp.kind v1=(5:Int)) (.ex v6 λn_1=>.all (λ(r:L8×Int)=>r=mulR n_1.1 n_1.2) λn_2=>.N (n_2.2=0) (.R [.nils,.i n_2.2] v7) (.side ((0:Int)<=i/\(i:Int)<ops.length) (.side v8 (.leaf (.back 0 v3 [.box v5,.dead,.box v2,.arr ops.length 1 (updG (ratG l) (0+Int.toNat i) 0 [.str n_2.1]),.box v4,.box v2]))))) (.ex v6 λn_1=>.all (λ(r:L8×Int)=>r=divR n_1.1 n_1.2) λn_2=>.N (n_2.2=0) (.R [.nils,.i n_2.2] v7) (.side ((0:Int)<=i/\(i:Int)<ops.length) (.side v8 (.leaf (.back 0 v3 [.box v5,.dead,.box v2,.arr ops.length 1 (updG (ratG l) (0+Int.toNat i) 0 [.str n_2.1]),.box v4,.box v2]))))))))))))) (.R [.osl 3 1 0 ops.length,.i 0] [.box v5,.dead,.box v2,.arr ops.length 1 (ratG l)])) ?_;simp only [q36,Tree.holds,zd,inR,lo,hi,aD];refine⟨λhlt=> ?_,λhge=> ?_⟩
 ·have hlt:i<ops.length:=by have:=aB hlt; omega
  have hok:=ZI c5 hlt;rw [U1 hlt] at hlr;obtain⟨o,ho⟩:∃ o,ops.getD i TOp.nil=o:=⟨_,rfl⟩;rw [ho] at hlr hok;simp only [ho,Nat.zero_add];simp only at hok;refine⟨by omega,λ_=> ?_⟩;have hst:=VW hqi hn hlq (by rw [hll]; exact hok)
  have bad:∀ (e:Int) (h:Heap),(z9 inp l o).2=e->e≠0->RetR K8 0 (upQ Q) [.nils,.i e] h:=by
   rintro e h rfl hne;rw [aP hne] at hlr;rw [<- hlr] at hq;exact Kh _ h hq
  have good:∀ (v:L8) (b:Heap),(z9 inp l o).2=0->(z9 inp l o).1=v->∃ x':{p:Nat×List L8 // p.1<=ops.length/\p.2.length=p.1/\allQ p.2/\runF inp (ops.drop p.1) p.2=runF inp ops []},ops.length - x'.1.1<ops.length - i /\
    LeK 0 f49.ntmps [(1,ratS inp),(6,.ptr 2 0),(7,.osl 3 1 0 ops.length),(18,opS ops),(19,.i (ops.length:Int)),(20,.i ((i:Int)+1))] ([.box [.i n,opS ops],.dead,.box [.fn 46 [] [],.fn 43 [] [],.fn 48 [] [],.fn 76 [] []],.arr ops.length 1 (updG (ratG l) i 0 [.str v])]++b) (SBr inp ops x'.1.1) (HBr n ops x'.1.2):=by
   rintro v b he rfl;rw [aO (by simp [he])] at hlr;refine⟨⟨(i+1,l++[(z9 inp l o).1]),hlt,by simp [hll],Wc hlq (hst he),hlr⟩,by show ops.length - (i+1)<ops.length - i; omega,?_,?_,rfl,aI _⟩
   ·simp [SBr,ratS,opS,za]
   ·simp only [HBr,List.cons_append];refine⟨by simp [opS,za],trivial,by simp,⟨rfl,rfl,?_⟩,by cases b<;>trivial⟩;exact zha hll
  have la:=zi4 hlq;refine⟨λk1=> ?_,λk1=>⟨λk2=> ?_,λk2=> ?_⟩⟩
  ·have k1:=aB k1;have h1:=w4 hok;refine⟨by omega,λ_=>⟨by omega,λ_=>⟨by omega,λ_=> ?_⟩⟩⟩;rw [aP trivial];exact good _ [_] (by unfold z9; rw [aP k1]) (by unfold z9; rw [aP k1])
  ·have k1:=aC k1;have k2:=aB k2;refine⟨by omega,λ_=>⟨by omega,λ_=> ?_⟩⟩;rw [aP trivial];exact good _ [_] (by unfold z9; rw [aO k1,aP k2]) (by unfold z9; rw [aO k1,aP k2])
  ·have k1:=aC k1;have k2:=aC k2;have h1:=w4 hok;have hv:z9 inp l o=arR o.kind (l.getD o.a.toNat []) (l.getD o.b.toNat []):=by unfold z9; rw [aO k1,aO k2]
   have fin:∀ (r:L8×Int) (h b:Heap),r=arR o.kind (l.getD o.a.toNat []) (l.getD o.b.toNat [])->((!decide (r.2=0))=true->RetR K8 0 (upQ Q) [.nils,.i r.2] h)/\((!decide (r.2=0))=false->(0<=(i:Int)/\(i:Int)<ops.length)/\(0<=(i:Int)/\(i:Int)<ops.length->(-9223372036854775808<=(i:Int)+1/\(i:Int)+1<=9223372036854775807)/\(-9223372036854775808<=(i:Int)+1/\(i:Int)+1<=9223372036854775807->if True then
     ∃ x':{p:Nat×List L8 // p.1<=ops.length/\p.2.length=p.1/\allQ p.2/\runF inp (ops.drop p.1) p.2=runF inp ops []},ops.length - x'.1.1<ops.length - i /\
    LeK 0 f49.ntmps [(1,ratS inp),(6,.ptr 2 0),(7,.osl 3 1 0 ops.length),(18,opS ops),(19,.i (ops.length:Int)),(20,.i ((i:Int)+1))] ([.box [.i n,opS ops],.dead,.box [.fn 46 [] [],.fn 43 [] [],.fn 48 [] [],.fn 76 [] []],.arr ops.length 1 (updG (ratG l) i 0 [.str r.1])]++b) (SBr inp ops x'.1.1) (HBr n ops x'.1.2) else False))):=by
    rintro r h b hr;rw [<- hv] at hr;refine⟨λh1=> ?_,λh1=>⟨by omega,λ_=>⟨by omega,λ_=> ?_⟩⟩⟩
    ·exact bad _ _ (by rw [hr]) (by simpa using h1)
    ·rw [aP trivial];exact good _ b (by rw [<- hr]; simpa using h1) (by rw [hr])
   refine⟨by omega,λ_=>⟨by omega,λ_=> ?_⟩⟩;have l1:=la o.a.toNat;have l2:=la o.b.toNat;refine⟨λk3=> ?_,λk3=>⟨λk4=> ?_,λk4=>⟨λk5=> ?_,λk5=> ?_⟩⟩⟩
   all_goals
    refine⟨(l.getD o.a.toNat [],l.getD o.b.toNat []),⟨⟨rfl,rfl,trivial⟩,by show(l.getD o.a.toNat []).length<_; omega,by show(l.getD o.b.toNat []).length<_; omega⟩,⟨_,rfl⟩,?_⟩;rintro _ rfl
   ·have k3:=aB k3;exact fin _ _ [_,_] (by unfold arR; rw [aP k3])
   ·have k3:=aC k3;have k4:=aB k4;exact fin _ _ [_,_] (by unfold arR; rw [aO k3,aP k4])
   ·have k3:=aC k3;have k4:=aC k4;have k5:=aB k5;exact fin _ _ [_,_] (by unfold arR; rw [aO k3,aO k4,aP k5])
   ·have k3:=aC k3;have k4:=aC k4;have k5:=aC k5;exact fin _ _ [_,_] (by unfold arR; rw [aO k3,aO k4,aO k5])
 ·have hge:i=ops.length:=by have:=aC hge; omega
  subst hge;rw [zbs] at hlr;rw [<- hlr] at hq;simp only at hq;rw [hll] at hq;refine RetR.outs [3] rfl rfl (.inl hq) (λ_=>⟨?_,?_⟩) ?_ ?_ rfl
  ·simp [resV,new2,new1,new0,zz,qe]
  ·simp only [aM,List.not_mem_nil,or_false,forall_eq];exact Kd (za _ _ _)
  ·simp [resV,exp2,exp1,exp0,zz,ren0,eqA2,eqL1]
  ·exact⟨⟨rfl,rfl,za _ _ _⟩,trivial⟩
noncomputable def K26:=Go.Sx.aA f26
noncomputable def K25:=Go.Sx.aA f25
def zdl:Ctr:=ctrP true (λp:Tp×List (L8)=>[p.1.av,ratS p.2]) (λp=>qi p.1/\ji p.2) (λp r=>r=trun p.1 p.2) (λ_ (r:List L8×Int)=>(.tup [.osl 0 1 0 r.1.length,.i r.2],[.arr r.1.length 1 (ratG r.1)]))
def SbRn(inp:List L8)(i:Nat):KV:=[(1,ratS inp),(2,.ptr 0 0),(20,ratS inp),(21,.i (inp.length:Int)),(22,.i (i:Int))]
def HbRn(n:Int)(ops:List TOp):Heap:=[.box [.i n,opS ops]]
noncomputable def GT3:=tb uy (tb w8 (tb Y6 tz))
abbrev q44(A:List AV)(x:Tp×List L8):Prop:=eqL A [.agg [.i x.1.n,.sl x.1.ops.length 4 (opG x.1.ops)],.sl x.2.length 1 (ratG x.2)]/\zh x.1=0/\(↑x.2.length:Int)=Tp.n x.1/\allQ x.2
abbrev q43(A:List AV)(x:Tp):Prop:=eqL A [.agg [.i x.n,.sl x.ops.length 4 (opG x.ops)]]/\qi x
theorem zgb:zc prog 26 zdl:=by
 refine Vq (fn:=f26) (c:=f26.body.getD .skip) rfl rfl rfl λp hp O w0 Q hq=> ?_
 obtain⟨⟨n,ops⟩,inp⟩:=p;obtain⟨hs,hr⟩:=hp;replace hq:=hq _ rfl;simp only at hs hr hq;refine zb.n GT3.h [1,2,20,21,22] (let v1:List Blk:=[.box [.i n,.sl ops.length 4 (opG ops)]];.ex (q43 [.agg [.i n,.sl ops.length 4 (opG ops)]]) λn_1=>.all (λ(r:Int)=>r=zh n_1) λn_2=>.N (n_2=0) (.R [.nils,.i n_2] v1) (.N ((inp.length:Int)=n) (.R [.nils,.i 2] v1) (.leaf (.loop (lps K26 0).1 (lps K26 0).2 [(1,.sl inp.length 1 (ratG inp)),(2,.ptr 0 0),(20,.sl inp.length 1 (ratG inp)),(21,.i inp.length),(22,.i 0)] v1)))) ?_;simp only [q43,Tree.holds,zd]
 have bad:∀ (e:Int) (h:Heap),preT ⟨n,ops⟩ inp=e->e≠0->RetR zdl 0 (upQ Q) [.nils,.i e] h:=by
  rintro e h rfl hne;have e:trun ⟨n,ops⟩ inp=([],preT ⟨n,ops⟩ inp):=by unfold trun; rw [aP hne]
  rw [e] at hq;exact Kh _ h hq
 refine⟨⟨n,ops⟩,⟨⟨⟨⟨rfl,rfl⟩,⟨rfl,rfl,za _ _ _⟩,trivial⟩,trivial⟩,hs⟩,⟨_,rfl⟩,?_⟩;rintro _ rfl;refine⟨λh=> ?_,λh=>⟨λh2=> ?_,λh2=> ?_⟩⟩
 ·have h:zh ⟨n,ops⟩≠0:=by simpa using h
  exact bad _ _ (by unfold preT; rw [aP h]) h
 ·have h:zh ⟨n,ops⟩=0:=by simpa using h
  have h2:(inp.length:Int)≠n:=by simpa using h2
  exact bad _ _ (by unfold preT; rw [aO (by simp [h]),aP h2]) (by decide)
 have h:zh ⟨n,ops⟩=0:=by simpa using h
 have h2:(inp.length:Int)=n:=by simpa using h2
 have hpre:preT ⟨n,ops⟩ inp=xz inp:=by unfold preT; rw [aO (by simp [h]),aO (by simp [h2])]
 obtain⟨hr1,hr2⟩:=hr;refine zb.loop (ι:={i:Nat // i<=inp.length/\xz (inp.drop i)=xz inp}) (λi=>SbRn inp i.1) (λ_=>HbRn n ops) (λi=>inp.length - i.1) ⟨0,aI _,rfl⟩ 0 ?_ ?_ (by kernel_rfl)
 ·exact⟨by simp [SbRn,ratS,za],by simp [HbRn,opS,za],by kernel_rfl,aI _⟩
 rintro⟨i,hil,hie⟩;refine zb.n GT3.h [1,2,20,21,22] (let v1:List AV:=[.i n,.sl ops.length 4 (opG ops)];.D ((i:Int)<inp.length) (.side ((0:Int)<=i/\(i:Int)<inp.length) (.ex (q15 [.str (inp.getD (i:Int).toNat [])]) λn_1=>.all (λ(r:Int)=>r=errR n_1) λn_2=>.N (n_2=0) (.R [.nils,.i n_2] [.box v1]) (.S (i+1) (.leaf (.back 0 [(1,.sl inp.length 1 (ratG inp)),(2,.ptr 0 0),(20,.sl inp.length 1 (ratG inp)),(21,.i inp.length),(22,.i (i+1))] [.box v1]))))) (.ex (q44 [.agg [.i n,.sl ops.length 4 (opG ops)],.sl inp.length 1 (ratG inp)]) λn_1=>.all (λ(r:List L8×Int)=>r=runF n_1.2 n_1.1.ops []) λn_2=>.R [.osl 1 1 0 n_2.1.length,.i n_2.2] [.box v1,.arr n_2.1.length 1 (ratG n_2.1)])) ?_;simp only [q15,q44,Tree.holds,zd,inR,lo,hi,aD];refine⟨λhlt=> ?_,λhge=> ?_⟩
 ·have hlt:i<inp.length:=by have:=aB hlt; omega
  rw [Xi hlt] at hie;have hl:=hr2 i hlt;refine⟨by omega,λ_=>⟨inp.getD i [],⟨⟨rfl,trivial⟩,by omega⟩,⟨_,rfl⟩,?_⟩⟩;rintro _ rfl;refine⟨λh3=> ?_,λh3=>⟨by omega,λ_=> ?_⟩⟩
  ·have h3:errR (inp.getD i [])≠0:=by simpa using h3
   rw [aP h3] at hie;exact bad _ _ (by rw [hpre,hie]) h3
  ·have h3:errR (inp.getD i [])=0:=by simpa using h3
   rw [aO (λg=>g h3)] at hie;rw [aP trivial];exact⟨⟨i+1,hlt,hie⟩,by show inp.length - (i+1)<inp.length - i; omega,by simp [SbRn,ratS,za],by simp [HbRn,opS,za],by kernel_rfl,aI _⟩
 ·have hge:i=inp.length:=by have:=aC hge; omega
  subst hge;rw [List.drop_length] at hie;have hq0:allQ inp:=Wt.1 hie.symm;refine⟨(⟨n,ops⟩,inp),⟨⟨⟨⟨rfl,rfl⟩,⟨rfl,rfl,za _ _ _⟩,trivial⟩,⟨rfl,rfl,za _ _ _⟩,trivial⟩,h,h2,hq0⟩,⟨_,rfl⟩,?_⟩;rintro _ rfl;have e:trun ⟨n,ops⟩ inp=runF inp ops []:=by unfold trun; rw [aO]; rw [hpre,<- hie]; simp [xz]
  rw [e] at hq;refine RetR.outs [1] rfl rfl (.inl hq) (λ_=>⟨?_,?_⟩) ?_ ?_ rfl
  ·simp [resV,new2,new1,new0,zz,qe]
  ·simp only [aM,List.not_mem_nil,or_false,forall_eq];exact Kd (za _ _ _)
  ·simp [resV,exp2,exp1,exp0,zz,ren0,eqA2,eqL1]
  ·exact⟨⟨rfl,rfl,za _ _ _⟩,trivial⟩
theorem zdm{t:Tp}{inp:List (L8)}(h:(trun t inp).2=0):zh t=0/\allQ (trun t inp).1/\(trun t inp).1.length=t.ops.length:=by
 unfold trun at h ⊢;by_cases g:preT t inp=0
 ·rw [aO (λk=>k g)] at h ⊢;obtain⟨p1,p2,p3⟩:=X5.1 g;obtain⟨c1,c2,c3,c4,c5⟩:=qF.1 p1;obtain⟨a1,a2,a3⟩:=uw (n:=t.n) p3 p2 t.ops [] _ (λy hy=>absurd hy (by simp)) (jJ c5 t.ops 0 (List.drop_zero)) (show runF inp t.ops []=((runF inp t.ops []).1,0) by rw [<- h]);exact⟨p1,a1,by simpa using a3⟩
 ·rw [aP g] at h; exact absurd h g
noncomputable def Yp:Ctr:=inlC prog noG 100 f37
theorem K3:zc prog 37 Yp:=xu hmix z6 rfl rfl
def Yy:Ctr:=ctrP true (λp:Tp×List (L8)=>[p.1.av,ratS p.2]) (λp=>qi p.1/\ji p.2) (λp r=>r=z5 p.1 p.2) (λ_ (r:L8×Int)=>(.tup [.str r.1,.i r.2],[]))
noncomputable def GT4:=tb zgb (tb K3 tz)
abbrev q45(A:List AV)(x:Tp×List L8):Prop:=eqL A [.agg [.i x.1.n,.sl x.1.ops.length 4 (opG x.1.ops)],.sl x.2.length 1 (ratG x.2)]/\qi x.1/\ji x.2
theorem WE:zc prog 19 Yy:=by
 refine zg' f19 λp hp O w0 Q hq=> ?_
 obtain⟨⟨n,ops⟩,inp⟩:=p;replace hq:=hq _ rfl;simp only at hp hq;refine zb.n GT4.h [] (.ex (q45 [.agg [.i n,.sl ops.length 4 (opG ops)],.sl inp.length 1 (ratG inp)]) λn_1=>.all (λ(r:List L8×Int)=>r=trun n_1.1 n_1.2) λn_2=>let v1:List Blk:=[.box [.i n,.sl ops.length 4 (opG ops)],.arr n_2.1.length 1 (ratG n_2.1)];.N (n_2.2=0) (.R [.str #[].toList,.i n_2.2] v1) (.S ((↑n_2.1.length:Int) - (1:Int)) (.side ((0:Int)<=n_2.1.length - (1:Int)/\(↑n_2.1.length:Int) - (1:Int)<n_2.1.length) (.R [.str (List.getD n_2.1 (0+Int.toNat ((↑n_2.1.length:Int) - (1:Int))) []),.i 0] v1)))) ?_;simp only [q45,Tree.holds,zd];refine⟨(⟨n,ops⟩,inp),⟨⟨⟨⟨rfl,rfl⟩,⟨rfl,rfl,za _ _ _⟩,trivial⟩,⟨rfl,rfl,za _ _ _⟩,trivial⟩,hp.1,hp.2⟩,⟨_,rfl⟩,?_⟩;intro r hr;replace hr:r=trun ⟨n,ops⟩ inp:=hr;unfold z5 qJ at hq;rw [<- hr] at hq;simp only [inR,lo,hi];refine⟨λh=> ?_,λh=> ?_⟩
 ·have h:r.2≠0:=by simpa using h
  rw [aP h] at hq;exact RetR.scal hq rfl (by simp [resV])
 ·have h:r.2=0:=by simpa using h
  rw [aO (λg=>g h)] at hq;obtain⟨c,_,l⟩:=zdm (hr▸h);rw [<- hr] at l;obtain⟨c1,_,_,c4,_⟩:=qF.1 c;refine⟨by omega,λ_=>⟨by omega,λ_=> ?_⟩⟩;have e:0+((r.1.length:Int) - 1).toNat=r.1.length - 1:=by omega
  rw [e];exact RetR.scal hq rfl (by simp [resV])
def zi8:Ctr:=ctrP true (λp:Tp×Int=>[p.1.av,.i p.2]) (λp=>qi p.1) (λp r=>r=degT p.1 p.2) (λ_ (r:Int×Int)=>(.tup [.i r.1,.i r.2],[]))
theorem Ww{l:List Int}{v:Int}{n i:Nat}(h:l.length=i):eqG n 1 (tgI .i64 (updI (dgF l) i v)) (tgI .i64 (dgF (l++[v]))):=by
 intro j o hj ho;simp only [tgI,updI,dgF];congr 1;by_cases hji:j=i
 ·subst hji; subst h;simp [List.getD]
 ·rw [aO hji];simp only [List.getD,bT];split
  ·rfl
  ·rename_i g;rw [aZ (by omega),aZ (by simp; omega)]
theorem zhq(n:Nat):eqG n 1 (wO [.i 0]) (tgI .i64 (dgF [])):=by
 intro j o hj ho;have ho:o=0:=by omega
 subst ho;simp [wO,tgI,dgF]
theorem zh4{l:List Int}{n i:Nat}(h:l.length=i):eqG n 1 (tgI .i64 (dgF l)) (tgI .i64 (dgF (l++[0]))):=by
 intro j o hj ho;simp only [tgI,dgF];congr 1;simp only [List.getD,bT];split
 ·rfl
 ·rename_i g;rw [aZ (by omega)];by_cases hji:j=l.length
  ·subst hji; simp
  ·rw [aZ (by simp; omega)]
def SbDg(k:Int)(ops:List TOp)(i:Nat):KV:=[(1,.i k),(7,.osl 1 1 0 ops.length),(27,opS ops),(28,.i (ops.length:Int)),(29,.i (i:Int)),Z 38,Z 39,Z 40,Z 41,Z 69,Z 70,Z 73,Z 74,Z 75,Z 76,Z 77,Z 78,Z 79]
def HbDg(n:Int)(ops:List TOp)(l:List Int):Heap:=[.box [.i n,opS ops],.arrI .i64 ops.length (dgF l)]
noncomputable def GT5:=tb uy (tb Y9 tz)
theorem zhy:zc prog 25 zi8:=by
 refine zg' f25 λp hp O w0 Q hq=> ?_
 obtain⟨⟨n,ops⟩,k⟩:=p;replace hq:=hq _ rfl;simp only at hp hq;refine zb.n GT5.h [1,7,27,28,29,38,39,40,41,69,70,73,74,75,76,77,78,79] (let v2:=Int.toNat ops.length;let v1:List AV:=[.i n,.sl ops.length 4 (opG ops)];.ex (q43 [.agg [.i n,.sl ops.length 4 (opG ops)]]) λn_1=>.all (λ(r:Int)=>r=zh n_1) λn_2=>.N (n_2=0) (.R [.i 0,.i n_2] [.box v1]) (.ite (!bif decide ((0:Int)<=k) then decide (k<n) else false) (.R [.i 0,.i 2] [.box v1]) (.side ((0:Int)<=ops.length/\(ops.length:Int)<=ops.length/\inR .i64 ops.length/\Int.toNat ops.length*8<=140737488355328) (.leaf (.loop (lps K25 0).1 (lps K25 0).2 [(1,.i k),(7,.osl 1 1 0 v2),(27,.sl ops.length 4 (opG ops)),(28,.i ops.length),(29,.i 0),Z 38,Z 39,Z 40,Z 41,Z 69,Z 70,Z 73,Z 74,Z 75,Z 76,Z 77,Z 78,Z 79] [.box v1,.arr v2 1 (wO [.i 0])]))))) ?_;simp only [q43,Tree.holds,zd];refine⟨⟨n,ops⟩,⟨⟨⟨⟨rfl,rfl⟩,⟨rfl,rfl,za _ _ _⟩,trivial⟩,trivial⟩,hp⟩,⟨_,rfl⟩,?_⟩;rintro _ rfl;refine⟨λh=> ?_,λh=>⟨λh2=> ?_,λh2=> ?_⟩⟩
 ·have h:zh ⟨n,ops⟩≠0:=by simpa using h
  unfold degT at hq;rw [aP h] at hq;exact RetR.scal hq rfl (by simp [resV])
 ·have h:zh ⟨n,ops⟩=0:=by simpa using h
  have h2:¬ (0<=k/\k<n):=by
   rintro⟨g1,g2⟩;rw [aX g1,aX g2] at h2;cases h2
  unfold degT at hq;rw [aO (λg=>g h),aO h2] at hq;exact RetR.scal hq rfl (by simp [resV])
 have h:zh ⟨n,ops⟩=0:=by simpa using h
 have h2:0<=k/\k<n:=by
  by_cases g1:0<=k
  ·by_cases g2:k<n
   ·exact⟨g1,g2⟩
   ·rw [aX g1,aW g2] at h2; cases h2
  ·rw [aW g1] at h2; cases h2
 obtain⟨c1,c2,c3,c4,c5⟩:=qF.1 h;simp only at c1 c2 c3 c4 c5;simp only [inR,lo,hi,aD];refine⟨⟨by omega,by omega,by omega,by omega⟩,λ_=> ?_⟩;unfold degT at hq;rw [aO (λg=>g h),aP h2] at hq;refine zb.loop (ι:={p:Nat×List Int // p.1<=ops.length/\p.2.length=p.1/\(∀ j,degB (p.2.getD j 0))/\degF k (ops.drop p.1) p.2=degF k ops []}) (λp=>SbDg k ops p.1.1) (λp=>HbDg n ops p.1.2) (λp=>ops.length - p.1.1) ⟨(0,[]),aI _,rfl,λj=>by simp [degB],by simp⟩ 0 ?_ ?_ (by kernel_rfl)
 ·exact⟨by simp [SbDg,opS,za],⟨by simp [opS,za],⟨rfl,rfl,zhq _⟩,trivial⟩,by kernel_rfl,aI _⟩
 rintro⟨⟨i,l⟩,hil,hll,hlb,hlr⟩;simp only at hil hll hlb hlr;refine zb.n GT5.h [1,7,27,28,29,38,39,40,41,69,70,73,74,75,76,77,78,79] (let v7:=updI (dgF l) (0+Int.toNat i) (1:Int);let v5:=inR .i64 (i+1);let v4:List AV:=[.i n,.sl ops.length 4 (opG ops)];let v2:List (Nat×AV):=[(1,.i k),(7,.osl 1 1 0 ops.length),(27,.sl ops.length 4 (opG ops)),(28,.i ops.length),(29,.i (i+1)),Z 38,Z 39,Z 40,Z 41,Z 69,Z 70,Z 73,Z 74,Z 75,Z 76,Z 77,Z 78,Z 79];let v1:=ops.getD (i:Int).toNat TOp.nil;let v10:=decide (TOp.kind v1=(5:Int));let v9:=decide (TOp.kind v1 <=(2:Int));let v8:=dgF l (0+Int.toNat v1.a)+dgF l (0+Int.toNat v1.b);let v6:=updI (dgF l) (0+Int.toNat i) (1:Int) (0+Int.toNat v1.a)+updI (dgF l) (0+Int.toNat i) (1:Int) (0+Int.toNat v1.b);let v3:List AV:=[.int .u8 v1.kind,.i v1.a,.i v1.b,.str v1.rat];.D ((i:Int)<ops.length) (.side ((0:Int)<=i/\(i:Int)<ops.length) (.ite (bif decide (TOp.kind v1=(1:Int)) then decide (TOp.a v1=k) else false) (.side ((0:Int)<=i/\(i:Int)<ops.length) (.ite v9 (.side v5 (.leaf (.back 0 v2 [.box v4,Blk.arrI .i64 ops.length v7,.box v3]))) (.side ((0:Int)<=TOp.a v1/\TOp.a v1 <(ops.length:Int)) (.side ((0:Int)<=TOp.b v1/\TOp.b v1 <(ops.length:Int)) (.ite (bif bif decide (updI (dgF l) (0+Int.toNat i) (1:Int) (0+Int.toNat v1.a)=(-1:Int)) then true else decide (updI (dgF l) (0+Int.toNat i) (1:Int) (0+Int.toNat v1.b)=(-1:Int)) then true else bif decide (TOp.kind v1=(6:Int)) then decide ((0:Int)<updI (dgF l) (0+Int.toNat i) (1:Int) (0+Int.toNat v1.b)) else false) (.side ((0:Int)<=i/\(i:Int)<ops.length) (.side v5 (.leaf (.back 0 v2 [.box v4,Blk.arrI .i64 ops.length (updI v7 (0+Int.toNat i) (-1:Int)),.box v3])))) (.ite v10 (.S v6 (.side ((0:Int)<=i/\(i:Int)<ops.length) (.side v5 (.leaf (.back 0 v2 [.box v4,Blk.arrI .i64 ops.length (updI v7 (0+Int.toNat i) (min v6 (1000:Int))),.box v3]))))) (.side ((0:Int)<=i/\(i:Int)<ops.length) (.side v5 (.leaf (.back 0 v2 [.box v4,Blk.arrI .i64 ops.length (updI v7 (0+Int.toNat i) (max (updI (dgF l) (0+Int.toNat i) (1:Int) (0+Int.toNat v1.a)) (updI (dgF l) (0+Int.toNat i) (1:Int) (0+Int.toNat v1.b)))),.box v3])))))))))) (.ite v9 (.side v5 (.leaf (.back 0 v2 [.box v4,Blk.arrI .i64 ops.length (dgF l),.box v3]))) (.side ((0:Int)<=TOp.a v1/\TOp.a v1 <(ops.length:Int)) (.side ((0:Int)<=TOp.b v1/\TOp.b v1 <(ops.length:Int)) (.ite (bif bif decide (dgF l (0+Int.toNat v1.a)=(-1:Int)) then true else decide (dgF l (0+Int.toNat v1.b)=(-1:Int)) then true else bif decide (TOp.kind v1=(6:Int)) then decide ((0:Int)<dgF l (0+Int.toNat v1.b)) else false) (.side ((0:Int)<=i/\(i:Int)<ops.length) (.side v5 (.leaf (.back 0 v2 [.box v4,Blk.arrI .i64 ops.length (updI (dgF l) (0+Int.toNat i) (-1:Int)),.box v3])))) (.ite v10 (.S v8 (.side ((0:Int)<=i/\(i:Int)<ops.length) (.side v5 (.leaf (.back 0 v2 [.box v4,Blk.arrI .i64 ops.length (updI (dgF l) (0+Int.toNat i) (min v8 (1000:Int))),.box v3]))))) (.side ((0:Int)<=i/\(i:Int)<ops.length) (.side v5 (.leaf (.back 0 v2 [.box v4,Blk.arrI .i64 ops.length (updI (dgF l) (0+Int.toNat i) (max (dgF l (0+Int.toNat v1.a)) (dgF l (0+Int.toNat v1.b)))),.box v3]))))))))))) (.S (ops.length-1) (.side ((0:Int)<=ops.length - (1:Int)/\(ops.length:Int) - (1:Int)<ops.length) (.R [.i (dgF l (0+Int.toNat (ops.length-1))),.i 0] [.box v4,Blk.arrI .i64 ops.length (dgF l)])))) ?_;simp only [Tree.holds,zd,inR,lo,hi,aD,Nat.zero_add];refine⟨λhlt=> ?_,λhge=> ?_⟩
 ·have hlt:i<ops.length:=by have:=aB hlt; omega
  have hok:=ZI c5 hlt;rw [zap hlt] at hlr;obtain⟨o,ho⟩:∃ o,ops.getD i TOp.nil=o:=⟨_,rfl⟩;rw [ho] at hlr hok;simp only [ho];simp only at hok
  have good:∀ (v:Int) (f:Nat->Int) (bx:Blk),degS k o l=v->eqG ops.length 1 (tgI .i64 f) (tgI .i64 (dgF (l++[v]))) ->
    (-9223372036854775808<=(i:Int)+1/\(i:Int)+1<=9223372036854775807)/\(-9223372036854775808<=(i:Int)+1/\(i:Int)+1<=9223372036854775807->if True then ∃ x':{p:Nat×List Int // p.1<=ops.length/\p.2.length=p.1/\(∀ j,degB (p.2.getD j 0))/\degF k (ops.drop p.1) p.2=degF k ops []},ops.length - x'.1.1<ops.length - i /\
    LeK 0 f25.ntmps [(1,.i k),(7,.osl 1 1 0 ops.length),(27,opS ops),(28,.i (ops.length:Int)),(29,.i ((i:Int)+1)),Z 38,Z 39,Z 40,Z 41,Z 69,Z 70,Z 73,Z 74,Z 75,Z 76,Z 77,Z 78,Z 79] [.box [.i n,opS ops],.arrI .i64 ops.length f,bx] (SbDg k ops x'.1.1) (HbDg n ops x'.1.2) else False):=by
   rintro v f bx rfl hg;refine⟨by omega,λ_=> ?_⟩;rw [aP trivial];refine⟨⟨(i+1,l++[degS k o l]),hlt,by simp [hll],λj=> ?_,hlr⟩,by show ops.length - (i+1)<ops.length - i; omega,by simp [SbDg,opS,za],⟨by simp [opS,za],⟨rfl,hg⟩,trivial⟩,by kernel_rfl,aI _⟩;have hd:=zke (i:=k) (o:=o) hlb;have hj:=hlb j;simp only [List.getD,bT] at hj ⊢;split
   ·exact hj
   ·rename_i g;by_cases g2:j - l.length=0
    ·rw [g2]; exact hd
    ·rw [aZ (by simp; omega)]; exact⟨by decide,by decide⟩
  have ri:(0:Int)<=(i:Int)/\(i:Int)<ops.length:=by omega
  have h1:=w4 hok;have ha:=hlb o.a.toNat;have hb:=hlb o.b.toNat;refine⟨ri,λ_=>⟨λk1=>⟨ri,λ_=>⟨λk2=> ?_,λk2=> ?_⟩⟩,λk1=>⟨λk2=> ?_,λk2=> ?_⟩⟩⟩
  ·have g:o.kind=1/\o.a=k:=by
    by_cases g1:o.kind=1
    ·by_cases g2:o.a=k
     ·exact⟨g1,g2⟩
     ·rw [aX g1,aW g2] at k1; cases k1
    ·rw [aW g1] at k1; cases k1
   exact good 1 (updI (dgF l) i 1) _ (by unfold degS; rw [aP g.1,aP g.2]) (Ww hll)
  ·exfalso
   have g:o.kind=1:=by
    by_cases g1:o.kind=1
    ·exact g1
    ·rw [aW g1] at k1; cases k1
   have:=aC k2;omega
  ·have k2:=aB k2;refine good 0 (dgF l) _ ?_ (zh4 hll);unfold degS;by_cases g1:o.kind=1
   ·rw [aP g1,aO];intro g2;rw [aX g1,aX g2] at k1; cases k1
   ·rw [aO g1,aP (by omega)]
  ·have k2:=aC k2
   have e0:degS k o l=if dgF l o.a.toNat<0\/dgF l o.b.toNat<0 then -1 else if o.kind=5 then min (dgF l o.a.toNat+dgF l o.b.toNat) 1000 else if o.kind=6 then(if 0<dgF l o.b.toNat then -1 else dgF l o.a.toNat) else max (dgF l o.a.toNat) (dgF l o.b.toNat):=by
    unfold degS;rw [aO (by omega),aO (by omega)]; rfl
   replace ha:degB (dgF l o.a.toNat):=ha;replace hb:degB (dgF l o.b.toNat):=hb;generalize dgF l o.a.toNat=x at *
   generalize dgF l o.b.toNat=y at *
   obtain⟨ha1,ha2⟩:=ha;obtain⟨hb1,hb2⟩:=hb;refine⟨by omega,λ_=>⟨by omega,λ_=>⟨λk3=>⟨ri,λ_=> ?_⟩,λk3=>⟨λk4=>⟨by omega,λ_=>⟨ri,λ_=> ?_⟩⟩,λk4=>⟨ri,λ_=> ?_⟩⟩⟩⟩⟩
   ·refine good (-1) (updI (dgF l) i (-1)) _ ?_ (Ww hll);rw [e0];by_cases g1:x = -1
    ·rw [aP (by omega)]
    ·by_cases g2:y = -1
     ·rw [aP (by omega)]
     ·rw [aW g1,aW g2] at k3;by_cases g3:o.kind=6
      ·by_cases g4:0<y
       ·rw [aO (by omega),aO (by omega),aP g3,aP g4]
       ·rw [aX g3,aW g4] at k3; cases k3
      ·rw [aW g3] at k3; cases k3
   all_goals
    have k5:¬ (x<0\/y<0)/\(o.kind=6->¬ 0<y):=by
     refine⟨?_,λg3 g4=> ?_⟩
     ·rintro(g | g)
      ·rw [aX (show x = -1 by omega)] at k3; cases k3
      ·rw [aX (show y = -1 by omega)] at k3;by_cases g1:x = -1
       ·rw [aX g1] at k3; cases k3
       ·rw [aW g1] at k3; cases k3
     ·rw [aX g3,aX g4] at k3;by_cases g1:x = -1
      ·rw [aX g1] at k3; cases k3
      ·by_cases g2:y = -1
       ·rw [aW g1,aX g2] at k3; cases k3
       ·rw [aW g1,aW g2] at k3; cases k3
   ·refine good _ (updI (dgF l) i _) _ ?_ (Ww hll);rw [e0,aO k5.1,aP (aB k4)]
   ·refine good _ (updI (dgF l) i _) _ ?_ (Ww hll);rw [e0,aO k5.1,aO (aC k4)];by_cases g6:o.kind=6
    ·rw [aP g6,aO (k5.2 g6)];have:=k5.2 g6;omega
    ·rw [aO g6]
 ·have hge:i=ops.length:=by have:=aC hge; omega
  subst hge;rw [zdj] at hlr;refine⟨by omega,λ_=>⟨by omega,λ_=> ?_⟩⟩;simp only at hq;rw [<- hlr] at hq;have e:((ops.length:Int) - 1).toNat=ops.length - 1:=by omega
  rw [e];exact RetR.scal hq rfl (by simp [resV,dgF])
end Go.Proofs.Tryz
end
section
namespace Go.Nov
end Go.Nov
end
section
set_option maxRecDepth 100000
open Go Go.Sx Go.Proofs Go.Nov
namespace Go.Proofs.Tryz
attribute [local simp] eqKV eqA eqA0 eqH eqB eqL eqL0
theorem zfa{l:List (L8)}{v:L8}{g:Nat->Nat->AV}(h:eqG l.length 1 g (ratG l)):eqG (l.length+1) 1 (appG l.length g (zf (ze 1 [.str v]) 0)) (ratG (l++[v])):=by
 intro j o hj ho;have ho:o=0:=by omega
 subst ho;simp only [appG];split
 ·rename_i h1;rw [h j 0 h1 (by omega)];simp only [ratG,List.getD,bL h1]
 ·have:j=l.length:=by omega
  subst this;simp [zf,ze,ratG,List.getD]
noncomputable def K12:=Go.Sx.aA f12
theorem WJ{α:Type}{l m:List α}{i:Nat}{z:α}(h1:i<l.length)(h2:i<m.length)(h:l.take i=m.take i)(hg:l.getD i z=m.getD i z):l.take (i+1)=m.take (i+1):=by
 rw [List.take_add_one,List.take_add_one,h];congr 1;simp only [List.getD,aF h1,aF h2,Option.getD_some] at hg ⊢;rw [hg]
def StSt(i:Nat):KV:=[(2,.ptr 0 0),(3,.ptr 1 0),(5,.i (i:Int))]
def HtSt(n n':Int)(l m:List TOp):Heap:=[.box [.i n,opS l],.box [.i n',opS m]]
def KQ:Ctr:=ctrP true (λp:Tp×Tp=>[p.1.av,p.2.av]) (λp=>p.1.ops.length<2^60) (λp r=>(r=true↔p.1=p.2)) (λ_ (r:Bool)=>(.bool r,[]))
theorem zdi:zc prog 12 KQ:=by
 refine zg' f12 λp hp O w0 Q hq=> ?_
 obtain⟨⟨n,l⟩,⟨n',m⟩⟩:=p;simp only at hp hq;refine zb.n z6 [2,3,5] (let v1:List Blk:=[.box [.i n,.sl l.length 4 (opG l)],.box [.i n',.sl m.length 4 (opG m)]];.ite (bif !decide (n=n') then true else !decide ((l.length:Int)=m.length)) (.R [.bool false] v1) (.leaf (.loop (lps K12 0).1 (lps K12 0).2 [(2,.ptr 0 0),(3,.ptr 1 0),(5,.i 0)] v1))) ?_;simp only [Tree.holds,zd];have no:∀ h,Tp.mk n l≠Tp.mk n' m->RetR KQ 0 Q [.bool false] h:=λh g=>RetR.scal (hq false (by simp [g])) rfl (by simp [resV])
 refine⟨λh=>no _ ?_,λh=> ?_⟩
 ·intro g; cases g; simp at h
 rw [orf] at h;have hn:n=n':=by simpa using h.1
 have hlm:l.length=m.length:=Int.ofNat.inj (show(l.length:Int)=m.length by simpa using h.2);subst hn;refine zb.loop (ι:={i:Nat // i<=l.length/\l.take i=m.take i}) (λi=>StSt i.1) (λ_=>HtSt n n l m) (λi=>l.length - i.1) ⟨0,aI _,by simp⟩ 0 ?_ ?_ (by kernel_rfl)
 ·exact⟨by simp [StSt],by simp [HtSt,opS,za],by kernel_rfl,aI _⟩
 rintro⟨i,hil,hie⟩;refine zb.n z6 [2,3,5] (let v3:=m.getD (i:Int).toNat TOp.nil;let v2:=l.getD (i:Int).toNat TOp.nil;let v1:List Blk:=[.box [.i n,.sl l.length 4 (opG l)],.box [.i n,.sl m.length 4 (opG m)]];.D ((i:Int)<l.length) (.side ((0:Int)<=i/\(i:Int)<l.length) (.side ((0:Int)<=i/\(i:Int)<m.length) (.ite (!(decide (TOp.kind v2=TOp.kind v3)&&(decide (TOp.a v2=TOp.a v3)&&(decide (TOp.b v2=TOp.b v3)&&(decide (TOp.rat v2=TOp.rat v3)&&true))))) (.R [.bool false] v1) (.S (i+1) (.leaf (.back 0 [(2,.ptr 0 0),(3,.ptr 1 0),(5,.i (i+1))] v1)))))) (.R [.bool true] v1)) ?_;simp only [Tree.holds,zd,inR,lo,hi,aD,Nat.zero_add];refine⟨λhlt=> ?_,λhge=> ?_⟩
 ·have hlt:i<l.length:=by have:=aB hlt; omega
  refine⟨by omega,λ_=>⟨by omega,λ_=>⟨λh1=>no _ ?_,λh1=>⟨by omega,λ_=> ?_⟩⟩⟩⟩
  ·intro g; cases g; simp at h1
  ·have h1:l.getD i TOp.nil=m.getD i TOp.nil:=by
    simp only [Bool.not_eq_false',bA,aK,and_true] at h1;generalize l.getD i TOp.nil=x at h1 ⊢;generalize m.getD i TOp.nil=y at h1 ⊢;obtain⟨a,b,c,d⟩:=x;obtain⟨a',b',c',d'⟩:=y;simp only at h1;obtain⟨rfl,rfl,rfl,rfl⟩:=h1;rfl
   rw [aP trivial];refine⟨⟨i+1,hlt,WJ hlt (by omega) hie h1⟩,by show l.length - (i+1)<l.length - i; omega,by simp [StSt],by simp [HtSt,opS,za],by kernel_rfl,aI _⟩
 ·have hge:i=l.length:=by have:=aC hge; omega
  subst hge;rw [bD,hlm,bD] at hie;exact RetR.scal (hq true (by simp [hie])) rfl (by simp [resV])
noncomputable def K44:=Go.Sx.aA f44
noncomputable def GD1:=tb yE (tb xL (tb yx (tb Ux tz)))
noncomputable def ddoI:Ctr:=inlC prog GD1.g 100 f42
theorem zkf:zc prog 42 ddoI:=xu hmix GD1.h rfl rfl
def HDf(t:Tp)(inp:List L8)(e:Int):Blk:=.box [.i t.n,opS t.ops,ratS inp,.i e]
def datC:Ctr:=ctrT false false (λp:Tp×List L8×Int×L8×List Int=>[.ptr 0 0,.str p.2.2.2.1,.osl 1 1 0 p.2.2.2.2.length])
 (λp=>[HDf p.1 p.2.1 p.2.2.1,.arrI .i64 p.2.2.2.2.length (dgF p.2.2.2.2)])
 (λp=>zh p.1=0/\(p.2.1.length:Int)=p.1.n/\allQ p.2.1/\errR p.2.2.2.1=0/\(∀ i∈p.2.2.2.2,0<=i/\i<p.1.n)/\p.2.2.2.2.length<2^40)
 (λp r=>r=stpA p.2.2.1 (atT p.1 p.2.1 p.2.2.2.1 p.2.2.2.2)) (λp (r:L8×Int)=>(.str r.1,[HDf p.1 p.2.1 r.2,.arrI .i64 p.2.2.2.2.length (dgF p.2.2.2.2)]))
noncomputable def GD2:=tb zkf (tb Y6 (tb K3 tz))
theorem zjh{t:Tp}{x:List (L8)}{h:L8} : atT t x h []=qJ (runF x t.ops []):=rfl
theorem zb2{t:Tp}{x:List (L8)}{h:L8}{i:Int}{l:List Int}(g:(addR (x.getD i.toNat []) h).2=0):atT t x h (i::l)=atT t (x.set i.toNat (addR (x.getD i.toNat []) h).1) h l:=by
 have e:shL h (i::l) x=shL h l (x.set i.toNat (addR (x.getD i.toNat []) h).1):=aO (λk=>k g);unfold atT;rw [e]
theorem zep{t:Tp}{x:List (L8)}{h:L8}{i:Int}{l:List Int}(g:(addR (x.getD i.toNat []) h).2≠0):atT t x h (i::l)=([],(addR (x.getD i.toNat []) h).2):=by
 have e:shL h (i::l) x=([],(addR (x.getD i.toNat []) h).2):=aP g;unfold atT;rw [e,aP g]
theorem zdq{x:List (L8)}{v:L8}{N i:Nat}(h:i<x.length):eqG N 1 (tgS λj=>if j=i then v else rtF x j) (tgS (rtF (x.set i v))):=by
 intro j o _ _;simp only [tgS,rtF];by_cases hji:j=i
 ·subst hji; rw [aP rfl]; simp [List.getD,h]
 ·rw [aO hji]; congr 1; simp only [List.getD]; rw [bS (λg=>hji g.symm)]
def StAt(h:L8)(N m i:Nat):KV:=[(0,.ptr 0 0),(1,.str h),(6,.str []),(7,.osl 2 1 0 N),(15,.osl 1 1 0 m),(16,.i (m:Int)),(17,.i (i:Int))]
def HtAt(t:Tp)(inp:List L8)(pl:List Int)(e:Int)(N:Nat)(x:List L8):Heap:=[HDf t inp e,.arrI .i64 pl.length (dgF pl),.arrS N (rtF x)]
theorem zfg:zc prog 44 datC:=by
 refine zC (fn:=f44) (c:=f44.body.getD .skip) rfl rfl rfl (λh=>by cases h) λp hp O w0 I0 Q hl0 hq=> ?_
 obtain⟨⟨n,ops⟩,inp,e,h,pl⟩:=p;replace hq:=hq _ rfl;obtain⟨h1,h2,h3,h4,h5,h6⟩:=hp;simp only at h1 h2 h3 h4 h5 h6 hq;refine zb.n GD2.h [0,1,6,7,15,16,17] (.side (inp.length*16<=140737488355328) (.leaf (.loop (lps K44 0).1 (lps K44 0).2 [(0,.ptr 0 0),(1,.str h),(6,.str #[].toList),(7,.osl 2 1 0 inp.length),(15,.osl 1 1 0 pl.length),(16,.i pl.length),(17,.i 0)] [.box [.i n,.sl ops.length 4 (opG ops),.sl inp.length 1 (ratG inp),.i e],Blk.arrI .i64 pl.length (dgF pl),.arr inp.length 1 (ratG inp)]))) ?_;simp only [Tree.holds,zd];obtain⟨c1,c2,c3,c4,c5⟩:=qF.1 h1;simp only at c1 c2 c3 c4 c5;refine⟨by omega,λ_=> ?_⟩;generalize hF:stpA e (atT ⟨n,ops⟩ inp h pl)=F at hq;refine zb.loop (ι:={p:Nat×Int×List L8 // p.1<=pl.length/\p.2.2.length=inp.length/\(p.2.1=0->allQ p.2.2/\atT ⟨n,ops⟩ p.2.2 h (pl.drop p.1)=F)/\(p.2.1≠0->F=([],p.2.1))}) (λp=>StAt h inp.length pl.length p.1.1) (λp=>HtAt ⟨n,ops⟩ inp pl p.1.2.1 inp.length p.1.2.2) (λp=>pl.length - p.1.1) ⟨(0,e,inp),aI _,rfl,λg=>⟨h3,?_⟩,λg=> ?_⟩ 0 ?_ ?_ (by kernel_rfl)
 ·rw [<- hF]; unfold stpA; rw [aO (λk=>k g)]; rfl
 ·rw [<- hF]; unfold stpA; rw [aP g]
 ·exact⟨by simp [StAt],by simp [HtAt,HDf,opS,ratS,za]; exactλ_ _ _ _=>rfl,by kernel_rfl,by show 2<=3; decide⟩
 rintro⟨⟨i,e',x⟩,hil,hxl,hx0,hx1⟩;simp only at hil hxl hx0 hx1;refine zb.n GD2.h [0,1,6,7,15,16,17] (let v4:=inR .i64 (i+1);let v3:=dgF pl (0+Int.toNat i);let v2:List AV:=[.i n,.sl ops.length 4 (opG ops),.sl inp.length 1 (ratG inp),.i e'];let v1:List (Nat×AV):=[(0,.ptr 0 0),(1,.str h),(6,.str []),(7,.osl 2 1 0 inp.length),(15,.osl 1 1 0 pl.length),(16,.i pl.length),(17,.i (i+1))];.D ((i:Int)<pl.length) (.side ((0:Int)<=i/\(i:Int)<pl.length) (.side ((0:Int)<=dgF pl (0+Int.toNat i)/\dgF pl (0+Int.toNat i)<(inp.length:Int)) (.D (e'=(0:Int)) (.ex (q36 [.str (rtF x (0+Int.toNat v3)),.str h]) λn_1=>.all (λ(r:L8×Int)=>r=addR n_1.1 n_1.2) λn_2=>.side ((0:Int)<=dgF pl (0+Int.toNat i)/\dgF pl (0+Int.toNat i)<(inp.length:Int)) (.side v4 (.leaf (.back 0 v1 [.box [.i n,.sl ops.length 4 (opG ops),.sl inp.length 1 (ratG inp),.i n_2.2],Blk.arrI .i64 pl.length (dgF pl),Blk.arrS inp.length (updS (rtF x) (0+Int.toNat v3) n_2.1)])))) (.side ((0:Int)<=dgF pl (0+Int.toNat i)/\dgF pl (0+Int.toNat i)<(inp.length:Int)) (.side v4 (.leaf (.back 0 v1 [.box v2,Blk.arrI .i64 pl.length (dgF pl),Blk.arrS inp.length (updS (rtF x) (0+Int.toNat v3) #[].toList)]))))))) (.D (e'=(0:Int)) (.ex (q44 [.agg [.i n,.sl ops.length 4 (opG ops)],.sl inp.length 1 (zf (tgS (rtF x)) 0)]) λn_1=>.all (λ(r:List L8×Int)=>r=runF n_1.2 n_1.1.ops []) λn_2=>.N (n_2.2=0) (.R [.str #[].toList] [.box [.i n,.sl ops.length 4 (opG ops),.sl inp.length 1 (ratG inp),.i n_2.2],Blk.arrI .i64 pl.length (dgF pl),Blk.arrS inp.length (rtF x),.arr n_2.1.length 1 (ratG n_2.1)]) (.S ((↑n_2.1.length:Int) - (1:Int)) (.side ((0:Int)<=n_2.1.length - (1:Int)/\(↑n_2.1.length:Int) - (1:Int)<n_2.1.length) (.R [.str (List.getD n_2.1 (0+Int.toNat ((↑n_2.1.length:Int) - (1:Int))) [])] [.box [.i n,.sl ops.length 4 (opG ops),.sl inp.length 1 (ratG inp),.i 0],Blk.arrI .i64 pl.length (dgF pl),Blk.arrS inp.length (rtF x),.arr n_2.1.length 1 (ratG n_2.1)])))) (.R [.str []] [.box v2,Blk.arrI .i64 pl.length (dgF pl),Blk.arrS inp.length (rtF x)]))) ?_;simp only [q36,q44,Tree.holds,zd,inR,lo,hi,aD,Nat.zero_add]
 have fin:∀ (r:L8×Int) (b:Heap),r=F->RetR datC 2 Q [.str r.1] ([.box [.i n,opS ops,ratS inp,.i r.2],.arrI .i64 pl.length (dgF pl)]++b):=by
  intro r b hr;rw [<- hr] at hq;exact RetR.keep [0,1] rfl (by simp) (by show ∀ j,j<2->_; decide) rfl hq (by simp [resV,exp2,exp1,exp0,ren0,eqA2,eqL1]) (by simp [expH,expB,exp1,exp0,ren0,HDf,opS,ratS,za]) rfl
 refine⟨λhlt=> ?_,λhge=> ?_⟩
 ·have hlt:i<pl.length:=by have:=aB hlt; omega
  have hpl:0<=dgF pl i/\dgF pl i<n:=h5 _ (by simp [dgF,List.getD,hlt]);have hd:pl.drop i=dgF pl i::pl.drop (i+1):=by rw [List.drop_eq_getElem_cons hlt]; simp [dgF,List.getD,hlt]
  refine⟨by omega,λ_=>⟨by omega,λ_=>⟨λhe=> ?_,λhe=> ?_⟩⟩⟩
  ·have he:=aB he;obtain⟨hxq,hxF⟩:=hx0 he;have hq1:=zi4 hxq (dgF pl i).toNat;have hq2:=zV h4;refine⟨(rtF x (dgF pl i).toNat,h),⟨by simp,by show(x.getD _ []).length<_; omega,by show h.length<_; omega⟩,⟨_,rfl⟩,?_⟩;intro r hr;replace hr:r=addR (x.getD (dgF pl i).toNat []) h:=hr;refine⟨by omega,λ_=>⟨by omega,λ_=> ?_⟩⟩;rw [aP trivial];rw [hd] at hxF;refine⟨⟨(i+1,r.2,x.set (dgF pl i).toNat r.1),hlt,by simp [hxl],λg=> ?_,λg=> ?_⟩,by show pl.length - (i+1)<pl.length - i; omega,by simp [StAt],?_,by kernel_rfl,by show 2<=3; decide⟩
   ·simp only at g;rw [hr] at g;rw [zb2 g,<- hr] at hxF;refine⟨Z4 hxq ?_ _,hxF⟩;rw [hr];exact(xC (jd hxq (by omega)) h4 g).1
   ·simp only at g;rw [hr] at g;rw [zep g,<- hr] at hxF;exact hxF.symm
   ·simp [HtAt,HDf,opS,ratS,za];exact zdq (by omega)
  ·have he:=aC he;have hF1:=hx1 he;refine⟨by omega,λ_=>⟨by omega,λ_=> ?_⟩⟩;rw [aP trivial];refine⟨⟨(i+1,e',x.set (dgF pl i).toNat []),hlt,by simp [hxl],λg=>absurd g he,λ_=>hF1⟩,by show pl.length - (i+1)<pl.length - i; omega,by simp [StAt],?_,by kernel_rfl,by show 2<=3; decide⟩;simp [HtAt,HDf,opS,ratS,za];exact zdq (by omega)
 ·have hge:i=pl.length:=by have:=aC hge; omega
  subst hge;refine⟨λhe=> ?_,λhe=> ?_⟩
  ·have he:=aB he;obtain⟨hxq,hxF⟩:=hx0 he;rw [List.drop_length,zjh] at hxF;refine⟨(⟨n,ops⟩,x),⟨⟨⟨⟨rfl,rfl⟩,⟨rfl,rfl,za _ _ _⟩,trivial⟩,⟨hxl.symm,rfl,λj o _ _=>by simp [zf,rtF,ratG,tgS]⟩,trivial⟩,h1,by show(x.length:Int)=n; omega,hxq⟩,⟨_,rfl⟩,?_⟩;intro r hr;replace hr:r=runF x ops []:=hr;rw [<- hr] at hxF;unfold qJ at hxF;refine⟨λg=> ?_,λg=> ?_⟩
   ·have g:r.2≠0:=by simpa using g
    rw [aP g] at hxF;exact fin ([],r.2) _ hxF
   ·have g:r.2=0:=by simpa using g
    rw [aO (λk=>k g)] at hxF
    have hl:r.1.length=ops.length:=by
     obtain⟨_,_,a3⟩:=uw (n:=n) hxq (by omega) ops [] _ (λy hy=>absurd hy (by simp)) (jJ c5 ops 0 (List.drop_zero)) (show runF x ops []=(r.1,0) by rw [<- hr,<- g]);simpa using a3
    refine⟨by omega,λ_=>⟨by omega,λ_=> ?_⟩⟩;have e2:((r.1.length:Int) - 1).toNat=r.1.length - 1:=by omega
    rw [e2];exact fin (_,0) _ hxF
  ·have he:=aC he;exact fin ([],e') _ (hx1 he).symm
def opN(k:Int):Nat:=if k=3 then 46 else if k=4 then 43 else if k=5 then 48 else 76
def ddoC:Ctr:=ctrT false false (λp:Tp×List L8×Int×Int×L8×L8=>[.ptr 0 0,.fn (opN p.2.2.2.1) [] [],.str p.2.2.2.2.1,.str p.2.2.2.2.2])
 (λp=>[HDf p.1 p.2.1 p.2.2.1]) (λp=>(p.2.2.2.1=3\/p.2.2.2.1=4\/p.2.2.2.1=5\/p.2.2.2.1=6)/\p.2.2.2.2.1.length<2^61/\p.2.2.2.2.2.length<2^61)
 (λp r=>r=stp p.2.2.1 (arR p.2.2.2.1) p.2.2.2.2.1 p.2.2.2.2.2) (λp (r:L8×Int)=>(.str r.1,[HDf p.1 p.2.1 r.2]))
theorem Zt:zc prog 42 ddoC:=by
 refine zC (fn:=f42) (c:=f42.body.getD .skip) rfl rfl rfl (λh=>by cases h) λp hp O w0 I0 Q hl0 hq=> ?_
 obtain⟨⟨n,ops⟩,inp,e,k,a,b⟩:=p;replace hq:=hq _ rfl;obtain⟨h1,h2,h3⟩:=hp;simp only at h1 h2 h3 hq
 have fin:∀ (r:L8×Int) (b':Heap),stp e (arR k) a b=r->RetR ddoC 1 Q [.str r.1] ([.box [.i n,opS ops,ratS inp,.i r.2]]++b'):=by
  intro r b' hr;rw [hr] at hq;exact RetR.keep [0] rfl (by simp) (by show ∀ j,j<1->_; decide) rfl hq (by simp [resV,exp2,exp1,exp0,ren0,eqA2,eqL1]) (by simp [expH,expB,exp1,exp0,ren0,HDf,opS,ratS,za]) rfl
 have no:∀ b':Heap,decide (e=0)=false->RetR ddoC 1 Q [.str []] ([.box [.i n,opS ops,ratS inp,.i e]]++b'):=λb' g=>fin ([],e) b' (by unfold stp; rw [aP (aC g)])
 have yes:∀ (b':Heap) (r:L8×Int),decide (e=0)=true->r=arR k a b->RetR ddoC 1 Q [.str r.1] ([.box [.i n,opS ops,ratS inp,.i r.2]]++b'):=λb' r g hr=>fin r b' (by unfold stp; rw [aO (λq=>q (aB g)),hr])
 rcases h1 with rfl | rfl | rfl | rfl
 ·refine zb.n GD1.h [] (.D (e=0) (.ex (q36 [.str a,.str b]) λn_1=>.all (λ(r:L8×Int)=>r=addR n_1.1 n_1.2) λn_2=>.R [.str n_2.1] [.box [.i n,.sl ops.length 4 (opG ops),.sl inp.length 1 (ratG inp),.i n_2.2]]) (.R [.str #[].toList] [.box [.i n,.sl ops.length 4 (opG ops),.sl inp.length 1 (ratG inp),.i e]])) ?_;simp only [q36,Tree.holds,zd];exact⟨λg=>⟨(a,b),⟨by simp,h2,h3⟩,⟨_,rfl⟩,λr hr=>yes [] r g hr⟩,λg=>no [] g⟩
 ·refine zb.n GD1.h [] (.D (e=0) (.ex (q36 [.str a,.str b]) λn_1=>.all (λ(r:L8×Int)=>r=subR n_1.1 n_1.2) λn_2=>.R [.str n_2.1] [.box [.i n,.sl ops.length 4 (opG ops),.sl inp.length 1 (ratG inp),.i n_2.2]]) (.R [.str #[].toList] [.box [.i n,.sl ops.length 4 (opG ops),.sl inp.length 1 (ratG inp),.i e]])) ?_;simp only [q36,Tree.holds,zd];exact⟨λg=>⟨(a,b),⟨by simp,h2,h3⟩,⟨_,rfl⟩,λr hr=>yes [] r g hr⟩,λg=>no [] g⟩
 ·refine zb.n GD1.h [] (.D (e=0) (.ex (q36 [.str a,.str b]) λn_1=>.all (λ(r:L8×Int)=>r=mulR n_1.1 n_1.2) λn_2=>.R [.str n_2.1] [.box [.i n,.sl ops.length 4 (opG ops),.sl inp.length 1 (ratG inp),.i n_2.2]]) (.R [.str #[].toList] [.box [.i n,.sl ops.length 4 (opG ops),.sl inp.length 1 (ratG inp),.i e]])) ?_;simp only [q36,Tree.holds,zd];exact⟨λg=>⟨(a,b),⟨by simp,h2,h3⟩,⟨_,rfl⟩,λr hr=>yes [] r g hr⟩,λg=>no [] g⟩
 ·refine zb.n GD1.h [] (.D (e=0) (.ex (q36 [.str a,.str b]) λn_1=>.all (λ(r:L8×Int)=>r=divR n_1.1 n_1.2) λn_2=>.R [.str n_2.1] [.box [.i n,.sl ops.length 4 (opG ops),.sl inp.length 1 (ratG inp),.i n_2.2]]) (.R [.str #[].toList] [.box [.i n,.sl ops.length 4 (opG ops),.sl inp.length 1 (ratG inp),.i e]])) ?_;simp only [q36,Tree.holds,zd];exact⟨λg=>⟨(a,b),⟨by simp,h2,h3⟩,⟨_,rfl⟩,λr hr=>yes [] r g hr⟩,λg=>no [] g⟩
noncomputable def K40:=Go.Sx.aA f40
theorem arR4:arR 4=subR:=by funext a b; simp [arR]
theorem arR3:arR 3=addR:=by funext a b; simp [arR]
theorem arR5:arR 5=mulR:=by funext a b; simp [arR]
theorem arR6:arR 6=divR:=by funext a b; simp [arR]
def qZ(r:L8×Int):Prop:=(r.2=0->errR r.1=0)/\(r.2≠0->r.1=[])
theorem qE{r:L8×Int}(h:qZ r):r.1.length<=2003:=by
 by_cases g:r.2=0
 ·exact zV (h.1 g)
 ·rw [h.2 g]; simp
theorem jM{r:L8×Int}(h:qZ r)(g:r.2=0):errR r.1=0:=h.1 g
theorem ve{t:Tp}{inp:List (L8)}{h:L8}{l:List Int}(hh:errR h=0)(p1:zh t=0)(p2:(inp.length:Int)=t.n)(p3:allQ inp)(hl:∀ i∈l,0<=i/\i<t.n):qZ (atT t inp h l):=by
 refine⟨λg=>(uQ hh p1 p2 p3 hl g).1,λg=> ?_⟩;unfold atT qJ at g ⊢;split
 ·rfl
 ·rename_i q;rw [aO q] at g;split
  ·rfl
  ·rename_i q2; rw [aO q2] at g; exact absurd rfl g
theorem jo{e k:Int}{x y:L8}(h:e=0->errR x=0/\errR y=0):qZ (stp e (arR k) x y):=by
 unfold stp;by_cases g:e=0
 ·rw [aO (λq=>q g)];obtain⟨a,b⟩:=h g;exact⟨λq=>Xr a b q,λq=>YJ a b q⟩
 ·rw [aP g];exact⟨λq=>absurd q g,λ_=>rfl⟩
theorem WI{i:Int} : eqG 1 1 (ze 1 [.i i]) (tgI .i64 (dgF [i])):=by
 intro j o hj ho;obtain rfl:j=0:=by omega
 obtain rfl:o=0:=by omega
 rfl
noncomputable def GD3:=tb Zt (tb zfg tz)
noncomputable def zik:Ctr:=inlC prog GD3.g 200 f41
theorem zgd:zc prog 41 zik:=xu hmix GD3.h rfl rfl
def Um:Ctr:=ctrT false false (λp:Tp×List L8×L8×Int=>[p.1.av,ratS p.2.1,.str p.2.2.1,.osl 0 1 0 1,.fn 41 [] [.ptr 1 0,.ptr 2 0]])
 (λp=>[.arrI .i64 1 (dgF [p.2.2.2]),.box [.str p.2.2.1],.box [.i p.2.2.2]])
 (λp=>qi p.1/\ji p.2.1/\p.2.2.1.length<2^49) (λp r=>r=qq p.1 p.2.1 p.2.2.2 p.2.2.1)
 (λp (r:L8×Int)=>(.tup [.str r.1,.i r.2],[.arrI .i64 1 (dgF [p.2.2.2]),.box [.str p.2.2.1],.box [.i p.2.2.2]]))
noncomputable def GD4:=tb WE (tb Y9 (tb w8 (tb zgd (tb Zt tz))))
def StDi(inp:List L8)(h v:L8)(k:Nat):KV:=[(1,ratS inp),(2,.str h),(4,.fn 41 [] [.ptr 1 0,.ptr 2 0]),(5,.ptr 3 0),(12,.str v),(30,.osl 0 1 0 1),(31,.i 1),(32,.i (k:Int))]
def HtDi(n:Int)(ops:List TOp)(h:L8)(i:Int):Heap:=[.arrI .i64 1 (dgF [i]),.box [.str h],.box [.i i],.box [.i n,opS ops]]
abbrev q46(A:List AV)(H:Heap)(x:Tp×List L8×Int×Int×L8×L8):Prop:=eqL A [.ptr 0 0,.fn (opN x.2.2.2.1) [] [],.str x.2.2.2.2.1,.str x.2.2.2.2.2]/\eqH H [.box [.i x.1.n,.sl x.1.ops.length 4 (opG x.1.ops),.sl x.2.1.length 1 (ratG x.2.1),.i x.2.2.1]]/\1=1/\(x.2.2.2.1=3\/x.2.2.2.1=4\/x.2.2.2.1=5\/x.2.2.2.1=6)/\x.2.2.2.2.1.length<2305843009213693952/\x.2.2.2.2.2.length<2305843009213693952
theorem zh0:zc prog 40 Um:=by
 refine zC (fn:=f40) (c:=f40.body.getD .skip) rfl rfl rfl (λh=>by cases h) λp hp O w0 I0 Q hl0 hq=> ?_
 obtain⟨⟨n,ops⟩,inp,h,i⟩:=p;replace hq:=hq _ rfl;obtain⟨h1,h2,h3⟩:=hp;simp only at h1 h2 h3 hq;refine zb.n GD4.h [1,2,4,5,12,30,31,32] (let v1:List AV:=[.i n,.sl ops.length 4 (opG ops)];.ex (q45 [.agg [.i n,.sl ops.length 4 (opG ops)],.sl inp.length 1 (ratG inp)]) λn_1=>.all (λ(r:L8×Int)=>r=z5 n_1.1 n_1.2) λn_2=>.N (n_2.2=0) (.R [.str #[].toList,.i n_2.2] [Blk.arrI .i64 1 (dgF [i]),.box [.str h],.box [.i i],.box v1]) (.leaf (.loop (lps K40 0).1 (lps K40 0).2 [(1,.sl inp.length 1 (ratG inp)),(2,.str h),(4,.fn 41 [] [.ptr 1 0,.ptr 2 0]),(5,.ptr 3 0),(12,.str n_2.1),(30,.osl 0 1 0 1),(31,.i 1),(32,.i 0)] [Blk.arrI .i64 1 (dgF [i]),.box [.str h],.box [.i i],.box v1]))) ?_;simp only [q45,Tree.holds,zd];generalize hF:qq ⟨n,ops⟩ inp i h=F at hq
 have fin:∀ (r:L8×Int) (b:Heap),F=r->RetR Um 3 Q [.str r.1,.i r.2] ([.arrI .i64 1 (dgF [i]),.box [.str h],.box [.i i]]++b):=by
  intro r b hr;rw [hr] at hq;exact RetR.keep [0,1,2] rfl (by simp) (by show ∀ j,j<3->_; decide) rfl hq (by simp [resV,exp2,exp1,exp0,ren0,eqA2,eqL1]) (by simp [expH,expB,exp1,exp0,ren0,za]) rfl
 have bad:∀ (e:Int) (b:Heap),begT ⟨n,ops⟩ inp [i] h=e->e≠0->RetR Um 3 Q [.str [],.i e] ([.arrI .i64 1 (dgF [i]),.box [.str h],.box [.i i]]++b):=by
  intro e b he he0;refine fin ([],e) b ?_;rw [<- hF];unfold qq;rw [he,aP he0]
 refine⟨(⟨n,ops⟩,inp),⟨by simp [za],h1,h2⟩,⟨_,rfl⟩,?_⟩;intro v hv;replace hv:v=z5 ⟨n,ops⟩ inp:=hv;refine⟨λg=> ?_,λg=> ?_⟩
 ·have g:v.2≠0:=by simpa using g
  exact bad _ [_] (by unfold begT; rw [<- hv,aP g]) g
 have g:v.2=0:=by simpa using g
 have hbeg:begT ⟨n,ops⟩ inp [i] h=if jl ⟨n,ops⟩ [i] then(if errR h≠0 then errR h else if h=[48] then 16 else 0) else 2:=by
  unfold begT; rw [<- hv,aO (λk=>k g)]
 refine zb.loop (ι:={k:Nat // k<=1/\∀ j,j<k->0<=dgF [i] j/\dgF [i] j<n}) (λk=>StDi inp h v.1 k.1) (λ_=>HtDi n ops h i) (λk=>1 - k.1) ⟨0,aI _,λj q=>absurd q (Nat.not_lt_zero j)⟩ 0 ?_ ?_ (by kernel_rfl)
 ·exact⟨by simp [StDi,ratS,za],by simp [HtDi,opS,za],by kernel_rfl,by show 3<=4; decide⟩
 rintro⟨k,hk,hkp⟩;refine zb.n GD4.h [1,2,4,5,12,30,31,32] (let v3:List AV:=[.i i];let v1:List AV:=[.i n,.sl ops.length 4 (opG ops)];.D ((k:Int)<1) (.side ((0:Int)<=k/\(k:Int)<1) (.ite (!bif decide ((0:Int)<=dgF [i] (0+Int.toNat k)) then decide (dgF [i] (0+Int.toNat k)<n) else false) (.R [.str #[].toList,.i 2] [Blk.arrI .i64 1 (dgF [i]),.box [.str h],.box v3,.box v1]) (.S (k+1) (.leaf (.back 0 [(1,.sl inp.length 1 (ratG inp)),(2,.str h),(4,.fn 41 [] [.ptr 1 0,.ptr 2 0]),(5,.ptr 3 0),(12,.str v.1),(30,.osl 0 1 0 1),(31,.i 1),(32,.i (k+1))] [Blk.arrI .i64 1 (dgF [i]),.box [.str h],.box v3,.box v1]))))) (.ex (q15 [.str h]) λn_1=>.all (λ(r:Int)=>r=errR n_1) λn_2=>.N (n_2=0) (.R [.str #[].toList,.i n_2] [Blk.arrI .i64 1 (dgF [i]),.box [.str h],.box v3,.box v1]) (.D (h=#[(48:UInt8)].toList) (.R [.str #[].toList,.i 16] [Blk.arrI .i64 1 (dgF [i]),.box [.str h],.box v3,.box v1]) (.ex (λ(x:Tp×List L8×Int×L8×List Int)=>eqL [.ptr 0 0,.str h,.osl 1 1 0 1] [.ptr 0 0,.str x.2.2.2.1,.osl 1 1 0 x.2.2.2.2.length]/\eqH [.box [.i n,.sl ops.length 4 (opG ops),.sl inp.length 1 (ratG inp),.i 0],.arr 1 1 (ze 1 [.i i])] [.box [.i x.1.n,.sl x.1.ops.length 4 (opG x.1.ops),.sl x.2.1.length 1 (ratG x.2.1),.i x.2.2.1],Blk.arrI .i64 x.2.2.2.2.length (dgF x.2.2.2.2)]/\2=2/\zh x.1=0/\(↑x.2.1.length:Int)=Tp.n x.1/\allQ x.2.1/\errR x.2.2.2.1=0/\(∀ (i:Int),i∈x.2.2.2.2->(0:Int)<=i/\i<Tp.n x.1)/\x.2.2.2.2.length<1099511627776) λn_3=>.all (λ(r:L8×Int)=>r=stpA n_3.2.2.1 (atT n_3.1 n_3.2.1 n_3.2.2.2.1 n_3.2.2.2.2)) λn_4=>.ex (q46 [.ptr 0 0,.fn 43 [] [],.str n_4.1,.str v.1] [.box [.i n_3.1.n,.sl n_3.1.ops.length 4 (opG n_3.1.ops),.sl n_3.2.1.length 1 (ratG n_3.2.1),.i n_4.2]]) λn_5=>.all (λ(r:L8×Int)=>r=stp n_5.2.2.1 (arR n_5.2.2.2.1) n_5.2.2.2.2.1 n_5.2.2.2.2.2) λn_6=>.ex (q46 [.ptr 0 0,.fn 76 [] [],.str n_6.1,.str h] [.box [.i n_5.1.n,.sl n_5.1.ops.length 4 (opG n_5.1.ops),.sl n_5.2.1.length 1 (ratG n_5.2.1),.i n_6.2]]) λn_7=>.all (λ(r:L8×Int)=>r=stp n_7.2.2.1 (arR n_7.2.2.2.1) n_7.2.2.2.2.1 n_7.2.2.2.2.2) λn_8=>let v2:List AV:=[.i n_7.1.n,.sl n_7.1.ops.length 4 (opG n_7.1.ops),.sl n_7.2.1.length 1 (ratG n_7.2.1),.i n_8.2];.N (n_8.2=0) (.R [.str #[].toList,.i n_8.2] [Blk.arrI .i64 1 (dgF [i]),.box [.str h],.box v3,.box v1,.box v2,Blk.arrI .i64 n_3.2.2.2.2.length (dgF n_3.2.2.2.2)]) (.R [.str n_8.1,.i 0] [Blk.arrI .i64 1 (dgF [i]),.box [.str h],.box v3,.box v1,.box v2,Blk.arrI .i64 n_3.2.2.2.2.length (dgF n_3.2.2.2.2)]))))) ?_;simp only [q15,q46,Tree.holds,zd,inR,lo,hi,aD,Nat.zero_add];refine⟨λhlt=> ?_,λhge=> ?_⟩
 ·have hlt:k<1:=by have:=aB hlt; omega
  obtain rfl:k=0:=by omega
  refine⟨by omega,λ_=>⟨λg2=> ?_,λg2=>⟨by omega,λ_=> ?_⟩⟩⟩
  ·refine bad 2 [_] ?_ (by decide);rw [hbeg,aO];intro g3;simp only [jl,List.all_cons,List.all_nil,Bool.and_true,bA] at g3;have g2:(!bif decide (0<=i) then decide (i<n) else false)=true:=g2;rw [g3.1,g3.2] at g2;cases g2
  ·rw [aP trivial];have g2:(!bif decide (0<=i) then decide (i<n) else false)=false:=g2
   have g3:0<=i/\i<n:=by
    by_cases a:0<=i
    ·by_cases b:i<n
     ·exact⟨a,b⟩
     ·rw [aX a,aW b] at g2; cases g2
    ·rw [aW a] at g2; cases g2
   exact⟨⟨1,aJ _,λj hj=>(show j=0 by omega)▸g3⟩,by show 1 - 1<1 - 0; decide,by simp [StDi,ratS,za],by simp [HtDi,opS,za],by kernel_rfl,by show 3<=4; decide⟩
 have hk1:k=1:=by have:=aC hge; omega
 subst hk1;have hpl:0<=i/\i<n:=hkp 0 (by decide)
 have hplB:jl ⟨n,ops⟩ [i]=true:=by
  simp only [jl,List.all_cons,List.all_nil,Bool.and_true];rw [aX hpl.1,aX hpl.2]; rfl
 rw [aP hplB] at hbeg;refine⟨h,⟨by simp,by omega⟩,⟨_,rfl⟩,?_⟩;intro e he;replace he:e=errR h:=he;rw [<- he] at hbeg;refine⟨λg2=> ?_,λg2=> ?_⟩
 ·have g2:e≠0:=by simpa using g2
  exact bad _ [_] (by rw [hbeg,aP g2]) g2
 have g2:e=0:=by simpa using g2
 rw [aO (λq=>q g2)] at hbeg;refine⟨λg4=> ?_,λg4=> ?_⟩
 ·exact bad _ [_] (by rw [hbeg,aP (aB g4)]) (by decide)
 rw [aO (aC g4)] at hbeg;obtain⟨v1,v2,v3,v4,v5⟩:=yZ (hv▸g);rw [<- hv] at v4;have he0:errR h=0:=he▸g2;have hl:=zV he0;have hlv:=zV v4;refine⟨(⟨n,ops⟩,inp,0,h,[i]),⟨by simp,by simp [za]; exact WI,trivial,v1,v2,v3,he0,λx hx=>by rw [List.mem_singleton.1 hx]; exact hpl,by show 1<_; decide⟩,⟨_,rfl⟩,?_⟩;intro r hr;replace hr:r=atT ⟨n,ops⟩ inp h [i]:=hr;have gr:qZ r:=hr▸ve he0 v1 v2 v3 (λx hx=>by rw [List.mem_singleton.1 hx]; exact hpl);have l1:=qE gr;refine⟨(⟨n,ops⟩,inp,r.2,4,r.1,v.1),⟨by simp [opN],by simp [za],trivial,.inr (.inl rfl),by show r.1.length<_; omega,by show v.1.length<_; omega⟩,⟨_,rfl⟩,?_⟩;intro u hu;replace hu:u=stp r.2 (arR 4) r.1 v.1:=hu;have gu:qZ u:=hu▸jo (λq=>⟨jM gr q,v4⟩);have l2:=qE gu;refine⟨(⟨n,ops⟩,inp,u.2,6,u.1,h),⟨by simp [opN],by simp [za],trivial,.inr (.inr (.inr rfl)),by show u.1.length<_; omega,by show h.length<_; omega⟩,⟨_,rfl⟩,?_⟩;intro w hw;replace hw:w=stp u.2 (arR 6) u.1 h:=hw
 have hFw:F=endR w:=by
  rw [<- hF];unfold qq yH;rw [aO (λq=>q hbeg),<- hv,<- hr,<- arR4,<- hu,<- arR6,<- hw]
 unfold endR at hFw;refine⟨λg5=> ?_,λg5=> ?_⟩
 ·have g5:w.2≠0:=by simpa using g5
  rw [aP g5] at hFw;exact fin ([],w.2) _ hFw
 ·have g5:w.2=0:=by simpa using g5
  rw [aO (λq=>q g5)] at hFw;exact fin (w.1,0) _ hFw
def zi1:Ctr:=ctrP true (λp:Tp×List L8×Int×L8=>[p.1.av,ratS p.2.1,.i p.2.2.1,.str p.2.2.2])
 (λp=>qi p.1/\ji p.2.1/\p.2.2.2.length<2^49) (λp r=>r=qq p.1 p.2.1 p.2.2.1 p.2.2.2)
 (λp (r:L8×Int)=>(.tup [.str r.1,.i r.2],[]))
noncomputable def GD5:=tb zh0 tz
theorem zgk:zc prog 22 zi1:=by
 refine zg' f22 λp hp O w0 Q hq=> ?_
 obtain⟨⟨n,ops⟩,inp,i,h⟩:=p;replace hq:=hq _ rfl;simp only at hp hq;refine zb.n GD5.h [] (.ex (λ(x:Tp×List L8×L8×Int)=>eqL [.agg [.i n,.sl ops.length 4 (opG ops)],.sl inp.length 1 (ratG inp),.str h,.osl 0 1 0 1,.fn 41 [] [.ptr 1 0,.ptr 2 0]] [.agg [.i x.1.n,.sl x.1.ops.length 4 (opG x.1.ops)],.sl x.2.1.length 1 (ratG x.2.1),.str x.2.2.1,.osl 0 1 0 1,.fn 41 [] [.ptr 1 0,.ptr 2 0]]/\eqH [.arr 1 1 (ze 1 [.i i]),.box [.str h],.box [.i i]] [Blk.arrI .i64 1 (dgF [x.2.2.2]),.box [.str x.2.2.1],.box [.i x.2.2.2]]/\3=3/\qi x.1/\ji x.2.1/\x.2.2.1.length<562949953421312) λn_1=>.all (λ(r:L8×Int)=>r=qq n_1.1 n_1.2.1 n_1.2.2.2 n_1.2.2.1) λn_2=>.R [.str n_2.1,.i n_2.2] [.box [.i n,.sl ops.length 4 (opG ops)],.box [.i n_1.2.2.2],.box [.str n_1.2.2.1],Blk.arrI .i64 1 (dgF [n_1.2.2.2])]) ?_;simp only [Tree.holds,zd];refine⟨(⟨n,ops⟩,inp,h,i),⟨by simp [za],by simp; exact WI,trivial,hp⟩,⟨_,rfl⟩,?_⟩;rintro _ rfl;exact RetR.scal hq rfl (by simp [resV])
end Go.Proofs.Tryz
end
