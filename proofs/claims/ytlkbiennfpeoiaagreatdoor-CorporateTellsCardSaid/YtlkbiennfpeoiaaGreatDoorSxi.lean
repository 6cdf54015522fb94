/- The law returns true for every input, and each argument reads afterwards as it read before; no condition. -/
import Derived.Test.YtlkbiennfpeoiaaGreatDoorSxh
import Derived.SizedLaws
import Derived.ChangeArms
import Derived.Deep.Slices
import Derived.Carry
import Derived.LaidMore
import Derived.WideKeyElems2
import Derived.ProofKit
import Derived.OpenShut
import Derived.ReadAgain
import Derived.Test.YtlkbiennfpeoiaaGreatDoorRows
import Derived.MakeChecks
import Derived.Test.YtlkbiennfpeoiaaGreatDoorCards
import Derived.Test.YtlkbiennfpeoiaaGreatDoorTie
import Derived.Stop.Joined
import Derived.SevenTiedAt
set_option linter.unusedVariables false
set_option linter.unusedSimpArgs false
set_option linter.unusedSectionVars false
section
set_option maxRecDepth 100000
open Go Go.Sx Go.Proofs Go.Nov
namespace Go.Proofs.Tryz
attribute [local simp] eqKV eqA eqA0 eqH eqB eqL eqL0
noncomputable def K3:List Go.Sx.Item:=[.code (Tryz.f3.body.getD .skip)]
noncomputable def GLct:Nat→Option Ctr:=fun f=>if f=6 then some (zkl) else if f=7 then some (Ut) else if f=8 then some (zgq) else if f=9 then some (Yi) else if f=10 then some (Kx) else if f=11 then some (Kx) else if f=12 then some (VV) else if f=13 then some (zl3) else if f=14 then some (JF) else if f=15 then some (Yk) else if f=16 then some (uA) else if f=17 then some (uG) else none
theorem jF:∀ g c,GLct g=some c→zc Tryz.prog g c:=okIf zj6 (okIf Ws (okIf zbm (okIf zll (okIf zin (okIf zdn (okIf zbg (okIf zi6 (okIf WI (okIf zhe (okIf yS (okIf yL (zp))))))))))))
theorem kK(e:Con):eqA e.conD e.conA:=xj ⟨rfl,rfl,za _ _ _⟩ ⟨rfl,rfl,za _ _ _⟩ ⟨rfl,rfl,Con.zA e⟩
theorem zlx{a:Ca}{c d:Con}(hp:a.conv c=(d,0)):d=Ca.whole a.chg c:=by
 unfold Ca.conv at hp
 by_cases q1:a.ok=true
 ·rw [if_pos q1] at hp
  by_cases q2:c.errC=0
  ·rw [if_pos q2] at hp
   by_cases q3:(Ca.whole a.chg c).errC=0
   ·rw [if_pos q3] at hp
    exact(congrArg Prod.fst hp).symm
   ·rw [if_neg q3] at hp
    exact absurd (congrArg Prod.snd hp) q3
  ·rw [if_neg q2] at hp
   exact absurd (congrArg Prod.snd hp) q2
 ·rw [if_neg q1] at hp
  exact absurd (congrArg Prod.snd hp) (show ¬ (8:Int)=0 by decide)
def wv:Ctr:=ctrP true (fun p:Ca×Ex×Con=>[p.1.av,p.2.1.exA,p.2.2.conA]) (fun p=>p.2.1.thin∧p.2.2.thin) (fun _ r=>r=true) (fun _ (r:Bool)=>(.bool r,[]))
def SCt1(i:Nat):KV:=[(5,.ptr 2 0),(7,.ptr 3 0),(12,.ptr 9 0),(16,.bool true),(17,.int .i64 (i:Int)),(18,.undef),(19,.undef),(121,.undef),(122,.undef),(123,.undef)]
def SCt2(i:Nat):KV:=[(5,.ptr 2 0),(7,.ptr 3 0),(12,.ptr 9 0),(16,.bool true),(17,.undef),(18,.int .i64 (i:Int)),(19,.undef),(121,.undef),(122,.undef),(123,.undef)]
def SCt3(i:Nat):KV:=[(5,.ptr 2 0),(7,.ptr 3 0),(12,.ptr 9 0),(16,.bool true),(17,.undef),(18,.undef),(19,.int .i64 (i:Int)),(121,.undef),(122,.undef),(123,.undef)]
def HCtA(c d:Con)(p q:Ex)(k0 k1:Int)(k:Nat)(f:Nat→Nat→AV)(n m:Nat)(g h:Nat→Nat→AV):Heap:=[.dead,.dead,.box c.ze,.box c.zz,.dead,.dead,.arr k 5 f,.arr n 1 g,.arr m 12 h,.box [.int .u8 d.kind,.str d.src,.str d.dst,.str d.name,.int .u8 d.x.kind,.str d.x.rat,.str d.x.name,.int .i64 d.x.date,.osl 6 5 0 k,.int .i64 d.date,.osl 7 1 0 n,.osl 8 12 0 m],.dead]
def HCtB(c d:Con)(p q:Ex)(k0 k1:Int)(k:Nat)(f:Nat→Nat→AV)(n m:Nat)(g h:Nat→Nat→AV):Heap:=[.dead,.dead,.box c.ze,.box c.zz,.dead,.dead,.box [.int .u8 k0,.str p.rat,.str p.name,.int .i64 p.date,.sl p.sub.length 5 p.deep,.int .u8 k1,.str q.rat,.str q.name,.int .i64 q.date,.sl q.sub.length 5 q.deep],.arr n 1 g,.arr m 12 h,.box [.int .u8 d.kind,.str d.src,.str d.dst,.str d.name,.int .u8 d.x.kind,.str d.x.rat,.str d.x.name,.int .i64 d.x.date,.osl 6 5 0 2,.int .i64 d.date,.osl 7 1 0 n,.osl 8 12 0 m],.dead]
def HCtC(c d:Con)(p q:Ex)(k0 k1:Int)(k:Nat)(f:Nat→Nat→AV)(n m:Nat)(g h:Nat→Nat→AV):Heap:=[.dead,.dead,.box c.ze,.box c.zz,.dead,.dead,.dead,.arr n 1 g,.arr m 12 h,.box [.int .u8 d.kind,.str d.src,.str d.dst,.str d.name,.int .u8 d.x.kind,.str d.x.rat,.str d.x.name,.int .i64 d.x.date,.sl 0 5 f,.int .i64 d.date,.osl 7 1 0 n,.osl 8 12 0 m],.dead]
theorem zcb{O:Nat→Prop}{w0:World}{Q:AV×Heap→Prop}{Hs:Nat→KV→Heap→Prop}(c d:Con)(p q:Ex)(k0 k1:Int)(k:Nat)(f:Nat→Nat→AV)(n m:Nat)(g h:Nat→Nat→AV)(hb:c.big<2^39)(hkk:k<2^40)(hq:Q (.bool true,[]))(kv:KV)(h':Heap)(hle:LeK 0 Tryz.f3.ntmps kv h' (SCt3 0) (HCtA c d p q k0 k1 k f n m g h)) :
  zb Tryz.prog Tryz.f3 O 0 w0 [] Hs (RetR wv 0 Q) (.code (.loop (lps (inside (inside K3 0) 0) 0).1)::(lps (inside (inside K3 0) 0) 0).2) (mk Tryz.f3.ntmps kv h'):=by
 have fin:∀ H:Heap,∃ r:Con×Con,(eqL [c.conA,c.conD] [r.1.conA,r.2.conA]∧r.1.big<1099511627776)∧(∃ b:Bool,b=true↔r.1=r.2)∧∀ b:Bool,(b=true↔r.1=r.2)→RetR wv 0 Q [.bool b] H:=by
  intro H
  refine⟨(c,c),⟨⟨zQ c,kK c,trivial⟩,by show c.big<_; omega⟩,⟨true,by simp⟩,fun b hb=> ?_⟩
  obtain rfl:b=true:=hb.2 rfl
  exact RetR.scal hq rfl (by simp [resV])
 refine zb.loop (ι:={s:Nat×(Nat→Nat→AV) // s.1≤k}) (fun s=>SCt3 s.1.1) (fun s=>HCtA c d p q k0 k1 k s.1.2 n m g h) (fun s=>k - s.1.1) ⟨(0,f),Nat.zero_le _⟩ 0 hle ?_ (by kernel_rfl)
 rintro⟨⟨i,f⟩,hil⟩
 simp only at hil
 refine zb.run hmix jF [5,7,12,16,17,18,19,121,122,123] 400 (T:=.ite (decide ((↑i:Int)<k)) (.side ((0:Int)≤i∧(↑i:Int)<k) (.side (inR .i64 ((↑i:Int)+(1:Int))) (.leaf (.back 0 [(5,.ptr 2 0),(7,.ptr 3 0),(12,.ptr 9 0),(16,.bool true),(17,.undef),(18,.undef),(19,.int .i64 ((↑i:Int)+(1:Int))),(121,.undef),(122,.undef),(123,.undef)] [.dead,.dead,.box (Con.ze c),.box (Con.zz c),.dead,.dead,.arr k 5 (updG f (0+Int.toNat (↑i:Int)) 0 [.int .u8 77]),.arr n 1 g,.arr m 12 h,.box [.int .u8 d.kind,.str d.src,.str d.dst,.str d.name,.int .u8 (Ex.kind d.x),.str (Ex.rat d.x),.str (Ex.name d.x),.int .i64 (Ex.date d.x),.osl 6 5 0 k,.int .i64 d.date,.osl 7 1 0 n,.osl 8 12 0 m],.dead])))) (.ex (fun(x:Con×Con)=>true=true→eqL [(Con.conA c),(Con.conD c)] [(Con.conA x.1),(Con.conA x.2)]∧Con.big x.1<1099511627776) fun n_1=>.all (fun(x:Bool)=>true=true→(x=true↔n_1.1=n_1.2)) fun n_2=>.leaf (.ret [.bool (bif true then n_2 else false)] [.dead,.dead,.box (Con.ze c),.box (Con.zz c),.dead,.dead,.arr k 5 f,.arr n 1 g,.arr m 12 h,.box [.int .u8 d.kind,.str d.src,.str d.dst,.str d.name,.int .u8 (Ex.kind d.x),.str (Ex.rat d.x),.str (Ex.name d.x),.int .i64 (Ex.date d.x),.osl 6 5 0 k,.int .i64 d.date,.osl 7 1 0 n,.osl 8 12 0 m],.dead]))) (by kernel_rfl) ?_
 simp only [Tree.holds,zd,inR,lo,hi,Int.toNat_natCast]
 refine⟨fun hlt=> ?_,fun hge=> ?_⟩
 ·have hlt:i<k:=by have:=of_decide_eq_true hlt; omega
  refine⟨by omega,fun _=>⟨by omega,fun _=> ?_⟩⟩
  rw [if_pos trivial]
  exact⟨⟨(i+1,updG f (0+i) 0 [.int .u8 77]),hlt⟩,by show k - (i+1)<k - i; omega,by simp [SCt3],zZ _,by kernel_rfl,Nat.zero_le _⟩
 ·obtain⟨r,h1,⟨b,h2⟩,h3⟩:=fin _
  exact⟨r,fun _=>h1,⟨b,fun _=>h2⟩,fun b hb=>h3 b (hb trivial)⟩
theorem zjg{O:Nat→Prop}{w0:World}{Q:AV×Heap→Prop}{Hs:Nat→KV→Heap→Prop}(c d:Con)(p q:Ex)(k0 k1:Int)(k:Nat)(f:Nat→Nat→AV)(n m:Nat)(g h:Nat→Nat→AV)(hb:c.big<2^39)(hkk:k<2^40)(hn:n<2^40)(hm:m<2^40)(hq:Q (.bool true,[]))(kv:KV)(h':Heap)(hle:LeK 0 Tryz.f3.ntmps kv h' (SCt2 0) (HCtA c d p q k0 k1 k f n m g h)) :
  zb Tryz.prog Tryz.f3 O 0 w0 [] Hs (RetR wv 0 Q) (.code (.loop (lps (inside K3 0) 0).1)::(lps (inside K3 0) 0).2) (mk Tryz.f3.ntmps kv h'):=by
 refine zb.loop (ι:={p:Nat×(Nat→Nat→AV) // p.1≤n}) (fun p=>SCt2 p.1.1) (fun s=>HCtA c d p q k0 k1 k f n m s.1.2 h) (fun p=>n - p.1.1) ⟨(0,g),Nat.zero_le _⟩ 0 hle ?_ (by kernel_rfl)
 rintro⟨⟨i,g⟩,hil⟩
 simp only at hil
 refine zb.run hmix jF [5,7,12,16,17,18,19,121,122,123] 400 (T:=.ite (decide ((↑i:Int)<n)) (.side ((0:Int)≤i∧(↑i:Int)<n) (.side (inR .i64 ((↑i:Int)+(1:Int))) (.leaf (.back 0 [(5,.ptr 2 0),(7,.ptr 3 0),(12,.ptr 9 0),(16,.bool true),(17,.undef),(18,.int .i64 ((↑i:Int)+(1:Int))),(19,.undef),(121,.undef),(122,.undef),(123,.undef)] [.dead,.dead,.box (Con.ze c),.box (Con.zz c),.dead,.dead,.arr k 5 f,.arr n 1 (updG g (0+Int.toNat (↑i:Int)) 0 [.int .i64 (-7:Int)]),.arr m 12 h,.box [.int .u8 d.kind,.str d.src,.str d.dst,.str d.name,.int .u8 (Ex.kind d.x),.str (Ex.rat d.x),.str (Ex.name d.x),.int .i64 (Ex.date d.x),.osl 6 5 0 k,.int .i64 d.date,.osl 7 1 0 n,.osl 8 12 0 m],.dead])))) (.leaf (.loop (Prod.fst (lps (inside (inside K3 0) 0) 0)) (Prod.snd (lps (inside (inside K3 0) 0) 0)) [(5,.ptr 2 0),(7,.ptr 3 0),(12,.ptr 9 0),(16,.bool true),(17,.undef),(18,.int .i64 i),(19,.int .i64 0),(121,.undef),(122,.undef),(123,.undef)] [.dead,.dead,.box (Con.ze c),.box (Con.zz c),.dead,.dead,.arr k 5 f,.arr n 1 g,.arr m 12 h,.box [.int .u8 d.kind,.str d.src,.str d.dst,.str d.name,.int .u8 (Ex.kind d.x),.str (Ex.rat d.x),.str (Ex.name d.x),.int .i64 (Ex.date d.x),.osl 6 5 0 k,.int .i64 d.date,.osl 7 1 0 n,.osl 8 12 0 m],.dead]))) (by kernel_rfl) ?_
 simp only [Tree.holds,zd,inR,lo,hi,Int.toNat_natCast]
 refine⟨fun hlt=> ?_,fun hge=> ?_⟩
 ·have hlt:i<n:=by have:=of_decide_eq_true hlt; omega
  refine⟨by omega,fun _=>⟨by omega,fun _=> ?_⟩⟩
  rw [if_pos trivial]
  exact⟨⟨(i+1,updG g (0+i) 0 [.int .i64 (-7)]),hlt⟩,by show n - (i+1)<n - i; omega,by simp [SCt2],zZ _,by kernel_rfl,Nat.zero_le _⟩
 ·exact zcb c d p q k0 k1 k f n m g h hb hkk hq _ _ ⟨by simp [SCt3],zZ _,by kernel_rfl,Nat.zero_le _⟩
theorem zj0{O:Nat→Prop}{w0:World}{Q:AV×Heap→Prop}{Hs:Nat→KV→Heap→Prop}(c d:Con)(p q:Ex)(k0 k1:Int)(k:Nat)(f:Nat→Nat→AV)(n m:Nat)(g h:Nat→Nat→AV)(hb:c.big<2^39)(hkk:k<2^40)(hn:n<2^40)(hm:m<2^40)(hq:Q (.bool true,[]))(kv:KV)(h':Heap)(hle:LeK 0 Tryz.f3.ntmps kv h' (SCt1 0) (HCtA c d p q k0 k1 k f n m g h)) :
  zb Tryz.prog Tryz.f3 O 0 w0 [] Hs (RetR wv 0 Q) (.code (.loop (lps K3 0).1)::(lps K3 0).2) (mk Tryz.f3.ntmps kv h'):=by
 refine zb.loop (ι:={p:Nat×(Nat→Nat→AV) // p.1≤m}) (fun p=>SCt1 p.1.1) (fun s=>HCtA c d p q k0 k1 k f n m g s.1.2) (fun p=>m - p.1.1) ⟨(0,h),Nat.zero_le _⟩ 0 hle ?_ (by kernel_rfl)
 rintro⟨⟨i,h⟩,hil⟩
 simp only at hil
 refine zb.run hmix jF [5,7,12,16,17,18,19,121,122,123] 400 (T:=.ite (decide ((↑i:Int)<m)) (.side ((0:Int)≤i∧(↑i:Int)<m) (.side (inR .i64 ((↑i:Int)+(1:Int))) (.leaf (.back 0 [(5,.ptr 2 0),(7,.ptr 3 0),(12,.ptr 9 0),(16,.bool true),(17,.int .i64 ((↑i:Int)+(1:Int))),(18,.undef),(19,.undef),(121,.undef),(122,.undef),(123,.undef)] [.dead,.dead,.box (Con.ze c),.box (Con.zz c),.dead,.dead,.arr k 5 f,.arr n 1 g,.arr m 12 (updG h (0+Int.toNat (↑i:Int)) 0 [.int .u8 77]),.box [.int .u8 d.kind,.str d.src,.str d.dst,.str d.name,.int .u8 (Ex.kind d.x),.str (Ex.rat d.x),.str (Ex.name d.x),.int .i64 (Ex.date d.x),.osl 6 5 0 k,.int .i64 d.date,.osl 7 1 0 n,.osl 8 12 0 m],.dead])))) (.leaf (.loop (Prod.fst (lps (inside K3 0) 0)) (Prod.snd (lps (inside K3 0) 0)) [(5,.ptr 2 0),(7,.ptr 3 0),(12,.ptr 9 0),(16,.bool true),(17,.int .i64 i),(18,.int .i64 0),(19,.undef),(121,.undef),(122,.undef),(123,.undef)] [.dead,.dead,.box (Con.ze c),.box (Con.zz c),.dead,.dead,.arr k 5 f,.arr n 1 g,.arr m 12 h,.box [.int .u8 d.kind,.str d.src,.str d.dst,.str d.name,.int .u8 (Ex.kind d.x),.str (Ex.rat d.x),.str (Ex.name d.x),.int .i64 (Ex.date d.x),.osl 6 5 0 k,.int .i64 d.date,.osl 7 1 0 n,.osl 8 12 0 m],.dead]))) (by kernel_rfl) ?_
 simp only [Tree.holds,zd,inR,lo,hi,Int.toNat_natCast]
 refine⟨fun hlt=> ?_,fun hge=> ?_⟩
 ·have hlt:i<m:=by have:=of_decide_eq_true hlt; omega
  refine⟨by omega,fun _=>⟨by omega,fun _=> ?_⟩⟩
  rw [if_pos trivial]
  exact⟨⟨(i+1,updG h (0+i) 0 [.int .u8 77]),hlt⟩,by show m - (i+1)<m - i; omega,by simp [SCt1],zZ _,by kernel_rfl,Nat.zero_le _⟩
 ·exact zjg c d p q k0 k1 k f n m g h hb hkk hn hm hq _ _ ⟨by simp [SCt2],zZ _,by kernel_rfl,Nat.zero_le _⟩
theorem zcc{O:Nat→Prop}{w0:World}{Q:AV×Heap→Prop}{Hs:Nat→KV→Heap→Prop}(c d:Con)(p q:Ex)(k0 k1:Int)(k:Nat)(f:Nat→Nat→AV)(n m:Nat)(g h:Nat→Nat→AV)(hb:c.big<2^39)(hkk:k<2^40)(hq:Q (.bool true,[]))(kv:KV)(h':Heap)(hle:LeK 0 Tryz.f3.ntmps kv h' (SCt3 0) (HCtB c d p q k0 k1 k f n m g h)) :
  zb Tryz.prog Tryz.f3 O 0 w0 [] Hs (RetR wv 0 Q) (.code (.loop (lps (inside (inside K3 0) 0) 0).1)::(lps (inside (inside K3 0) 0) 0).2) (mk Tryz.f3.ntmps kv h'):=by
 have fin:∀ H:Heap,∃ r:Con×Con,(eqL [c.conA,c.conD] [r.1.conA,r.2.conA]∧r.1.big<1099511627776)∧(∃ b:Bool,b=true↔r.1=r.2)∧∀ b:Bool,(b=true↔r.1=r.2)→RetR wv 0 Q [.bool b] H:=by
  intro H
  refine⟨(c,c),⟨⟨zQ c,kK c,trivial⟩,by show c.big<_; omega⟩,⟨true,by simp⟩,fun b hb=> ?_⟩
  obtain rfl:b=true:=hb.2 rfl
  exact RetR.scal hq rfl (by simp [resV])
 refine zb.loop (ι:={s:Nat×Int×Int // s.1≤2}) (fun s=>SCt3 s.1.1) (fun s=>HCtB c d p q s.1.2.1 s.1.2.2 k f n m g h) (fun s=>2 - s.1.1) ⟨(0,k0,k1),Nat.zero_le _⟩ 0 hle ?_ (by kernel_rfl)
 rintro⟨⟨i,k0,k1⟩,hil⟩
 simp only at hil
 rcases(show i=0∨i=1∨i=2 by omega) with rfl | rfl | rfl
 ·refine zb.run hmix jF [5,7,12,16,17,18,19,121,122,123] 400 (T:=.ite true (.side ((0:Int)≤0∧(0:Int)<2) (.side (inR .i64 (1:Int)) (.leaf (.back 0 [(5,.ptr 2 0),(7,.ptr 3 0),(12,.ptr 9 0),(16,.bool true),(17,.undef),(18,.undef),(19,.int .i64 1),(121,.undef),(122,.undef),(123,.undef)] [.dead,.dead,.box (Con.ze c),.box (Con.zz c),.dead,.dead,.box [.int .u8 77,.str p.rat,.str p.name,.int .i64 p.date,.sl p.sub.length 5 p.deep,.int .u8 k1,.str q.rat,.str q.name,.int .i64 q.date,.sl q.sub.length 5 q.deep],.arr n 1 g,.arr m 12 h,.box [.int .u8 d.kind,.str d.src,.str d.dst,.str d.name,.int .u8 (Ex.kind d.x),.str (Ex.rat d.x),.str (Ex.name d.x),.int .i64 (Ex.date d.x),.osl 6 5 0 2,.int .i64 d.date,.osl 7 1 0 n,.osl 8 12 0 m],.dead])))) (.ex (fun(x:Con×Con)=>true=true→eqL [(Con.conA c),(Con.conD c)] [(Con.conA x.1),(Con.conA x.2)]∧Con.big x.1<1099511627776) fun n_1=>.all (fun(x:Bool)=>true=true→(x=true↔n_1.1=n_1.2)) fun n_2=>.leaf (.ret [.bool (bif true then n_2 else false)] [.dead,.dead,.box (Con.ze c),.box (Con.zz c),.dead,.dead,.box [.int .u8 k0,.str p.rat,.str p.name,.int .i64 p.date,.sl p.sub.length 5 p.deep,.int .u8 k1,.str q.rat,.str q.name,.int .i64 q.date,.sl q.sub.length 5 q.deep],.arr n 1 g,.arr m 12 h,.box [.int .u8 d.kind,.str d.src,.str d.dst,.str d.name,.int .u8 (Ex.kind d.x),.str (Ex.rat d.x),.str (Ex.name d.x),.int .i64 (Ex.date d.x),.osl 6 5 0 2,.int .i64 d.date,.osl 7 1 0 n,.osl 8 12 0 m],.dead]))) (by kernel_rfl) ?_
  simp only [Tree.holds,zd,inR,lo,hi,Int.toNat_natCast]
  refine⟨fun _=>⟨by decide,fun _=>⟨by decide,fun _=> ?_⟩⟩,fun h=>(by cases h)⟩
  rw [if_pos trivial]
  exact⟨⟨(1,77,k1),(by show 1≤2; decide)⟩,by show 2 - 1<2 - 0; decide,by simp [SCt3],zZ _,by kernel_rfl,Nat.zero_le _⟩
 ·refine zb.run hmix jF [5,7,12,16,17,18,19,121,122,123] 400 (T:=.ite true (.side ((0:Int)≤1∧(1:Int)<2) (.side (inR .i64 (2:Int)) (.leaf (.back 0 [(5,.ptr 2 0),(7,.ptr 3 0),(12,.ptr 9 0),(16,.bool true),(17,.undef),(18,.undef),(19,.int .i64 2),(121,.undef),(122,.undef),(123,.undef)] [.dead,.dead,.box (Con.ze c),.box (Con.zz c),.dead,.dead,.box [.int .u8 k0,.str p.rat,.str p.name,.int .i64 p.date,.sl p.sub.length 5 p.deep,.int .u8 77,.str q.rat,.str q.name,.int .i64 q.date,.sl q.sub.length 5 q.deep],.arr n 1 g,.arr m 12 h,.box [.int .u8 d.kind,.str d.src,.str d.dst,.str d.name,.int .u8 (Ex.kind d.x),.str (Ex.rat d.x),.str (Ex.name d.x),.int .i64 (Ex.date d.x),.osl 6 5 0 2,.int .i64 d.date,.osl 7 1 0 n,.osl 8 12 0 m],.dead])))) (.ex (fun(x:Con×Con)=>true=true→eqL [(Con.conA c),(Con.conD c)] [(Con.conA x.1),(Con.conA x.2)]∧Con.big x.1<1099511627776) fun n_1=>.all (fun(x:Bool)=>true=true→(x=true↔n_1.1=n_1.2)) fun n_2=>.leaf (.ret [.bool (bif true then n_2 else false)] [.dead,.dead,.box (Con.ze c),.box (Con.zz c),.dead,.dead,.box [.int .u8 k0,.str p.rat,.str p.name,.int .i64 p.date,.sl p.sub.length 5 p.deep,.int .u8 k1,.str q.rat,.str q.name,.int .i64 q.date,.sl q.sub.length 5 q.deep],.arr n 1 g,.arr m 12 h,.box [.int .u8 d.kind,.str d.src,.str d.dst,.str d.name,.int .u8 (Ex.kind d.x),.str (Ex.rat d.x),.str (Ex.name d.x),.int .i64 (Ex.date d.x),.osl 6 5 0 2,.int .i64 d.date,.osl 7 1 0 n,.osl 8 12 0 m],.dead]))) (by kernel_rfl) ?_
  simp only [Tree.holds,zd,inR,lo,hi,Int.toNat_natCast]
  refine⟨fun _=>⟨by decide,fun _=>⟨by decide,fun _=> ?_⟩⟩,fun h=>(by cases h)⟩
  rw [if_pos trivial]
  exact⟨⟨(2,k0,77),(by show 2≤2; decide)⟩,by show 2 - 2<2 - 1; decide,by simp [SCt3],zZ _,by kernel_rfl,Nat.zero_le _⟩
 ·refine zb.run hmix jF [5,7,12,16,17,18,19,121,122,123] 400 (T:=.ite false (.side ((0:Int)≤2∧(2:Int)<2) .fail) (.ex (fun(x:Con×Con)=>true=true→eqL [(Con.conA c),(Con.conD c)] [(Con.conA x.1),(Con.conA x.2)]∧Con.big x.1<1099511627776) fun n_1=>.all (fun(x:Bool)=>true=true→(x=true↔n_1.1=n_1.2)) fun n_2=>.leaf (.ret [.bool (bif true then n_2 else false)] [.dead,.dead,.box (Con.ze c),.box (Con.zz c),.dead,.dead,.box [.int .u8 k0,.str p.rat,.str p.name,.int .i64 p.date,.sl p.sub.length 5 p.deep,.int .u8 k1,.str q.rat,.str q.name,.int .i64 q.date,.sl q.sub.length 5 q.deep],.arr n 1 g,.arr m 12 h,.box [.int .u8 d.kind,.str d.src,.str d.dst,.str d.name,.int .u8 (Ex.kind d.x),.str (Ex.rat d.x),.str (Ex.name d.x),.int .i64 (Ex.date d.x),.osl 6 5 0 2,.int .i64 d.date,.osl 7 1 0 n,.osl 8 12 0 m],.dead]))) (by kernel_rfl) ?_
  simp only [Tree.holds,zd,inR,lo,hi,Int.toNat_natCast]
  refine⟨fun h=>(by cases h),fun _=> ?_⟩
  obtain⟨r,h1,⟨b,h2⟩,h3⟩:=fin _
  exact⟨r,fun _=>h1,⟨b,fun _=>h2⟩,fun b hb=>h3 b (hb trivial)⟩
theorem zk6{O:Nat→Prop}{w0:World}{Q:AV×Heap→Prop}{Hs:Nat→KV→Heap→Prop}(c d:Con)(p q:Ex)(k0 k1:Int)(k:Nat)(f:Nat→Nat→AV)(n m:Nat)(g h:Nat→Nat→AV)(hb:c.big<2^39)(hkk:k<2^40)(hn:n<2^40)(hm:m<2^40)(hq:Q (.bool true,[]))(kv:KV)(h':Heap)(hle:LeK 0 Tryz.f3.ntmps kv h' (SCt2 0) (HCtB c d p q k0 k1 k f n m g h)) :
  zb Tryz.prog Tryz.f3 O 0 w0 [] Hs (RetR wv 0 Q) (.code (.loop (lps (inside K3 0) 0).1)::(lps (inside K3 0) 0).2) (mk Tryz.f3.ntmps kv h'):=by
 refine zb.loop (ι:={p:Nat×(Nat→Nat→AV) // p.1≤n}) (fun p=>SCt2 p.1.1) (fun s=>HCtB c d p q k0 k1 k f n m s.1.2 h) (fun p=>n - p.1.1) ⟨(0,g),Nat.zero_le _⟩ 0 hle ?_ (by kernel_rfl)
 rintro⟨⟨i,g⟩,hil⟩
 simp only at hil
 refine zb.run hmix jF [5,7,12,16,17,18,19,121,122,123] 400 (T:=.ite (decide ((↑i:Int)<n)) (.side ((0:Int)≤i∧(↑i:Int)<n) (.side (inR .i64 ((↑i:Int)+(1:Int))) (.leaf (.back 0 [(5,.ptr 2 0),(7,.ptr 3 0),(12,.ptr 9 0),(16,.bool true),(17,.undef),(18,.int .i64 ((↑i:Int)+(1:Int))),(19,.undef),(121,.undef),(122,.undef),(123,.undef)] [.dead,.dead,.box (Con.ze c),.box (Con.zz c),.dead,.dead,.box [.int .u8 k0,.str p.rat,.str p.name,.int .i64 p.date,.sl p.sub.length 5 p.deep,.int .u8 k1,.str q.rat,.str q.name,.int .i64 q.date,.sl q.sub.length 5 q.deep],.arr n 1 (updG g (0+Int.toNat (↑i:Int)) 0 [.int .i64 (-7:Int)]),.arr m 12 h,.box [.int .u8 d.kind,.str d.src,.str d.dst,.str d.name,.int .u8 (Ex.kind d.x),.str (Ex.rat d.x),.str (Ex.name d.x),.int .i64 (Ex.date d.x),.osl 6 5 0 2,.int .i64 d.date,.osl 7 1 0 n,.osl 8 12 0 m],.dead])))) (.leaf (.loop (Prod.fst (lps (inside (inside K3 0) 0) 0)) (Prod.snd (lps (inside (inside K3 0) 0) 0)) [(5,.ptr 2 0),(7,.ptr 3 0),(12,.ptr 9 0),(16,.bool true),(17,.undef),(18,.int .i64 i),(19,.int .i64 0),(121,.undef),(122,.undef),(123,.undef)] [.dead,.dead,.box (Con.ze c),.box (Con.zz c),.dead,.dead,.box [.int .u8 k0,.str p.rat,.str p.name,.int .i64 p.date,.sl p.sub.length 5 p.deep,.int .u8 k1,.str q.rat,.str q.name,.int .i64 q.date,.sl q.sub.length 5 q.deep],.arr n 1 g,.arr m 12 h,.box [.int .u8 d.kind,.str d.src,.str d.dst,.str d.name,.int .u8 (Ex.kind d.x),.str (Ex.rat d.x),.str (Ex.name d.x),.int .i64 (Ex.date d.x),.osl 6 5 0 2,.int .i64 d.date,.osl 7 1 0 n,.osl 8 12 0 m],.dead]))) (by kernel_rfl) ?_
 simp only [Tree.holds,zd,inR,lo,hi,Int.toNat_natCast]
 refine⟨fun hlt=> ?_,fun hge=> ?_⟩
 ·have hlt:i<n:=by have:=of_decide_eq_true hlt; omega
  refine⟨by omega,fun _=>⟨by omega,fun _=> ?_⟩⟩
  rw [if_pos trivial]
  exact⟨⟨(i+1,updG g (0+i) 0 [.int .i64 (-7)]),hlt⟩,by show n - (i+1)<n - i; omega,by simp [SCt2],zZ _,by kernel_rfl,Nat.zero_le _⟩
 ·exact zcc c d p q k0 k1 k f n m g h hb hkk hq _ _ ⟨by simp [SCt3],zZ _,by kernel_rfl,Nat.zero_le _⟩
theorem zja{O:Nat→Prop}{w0:World}{Q:AV×Heap→Prop}{Hs:Nat→KV→Heap→Prop}(c d:Con)(p q:Ex)(k0 k1:Int)(k:Nat)(f:Nat→Nat→AV)(n m:Nat)(g h:Nat→Nat→AV)(hb:c.big<2^39)(hkk:k<2^40)(hn:n<2^40)(hm:m<2^40)(hq:Q (.bool true,[]))(kv:KV)(h':Heap)(hle:LeK 0 Tryz.f3.ntmps kv h' (SCt1 0) (HCtB c d p q k0 k1 k f n m g h)) :
  zb Tryz.prog Tryz.f3 O 0 w0 [] Hs (RetR wv 0 Q) (.code (.loop (lps K3 0).1)::(lps K3 0).2) (mk Tryz.f3.ntmps kv h'):=by
 refine zb.loop (ι:={p:Nat×(Nat→Nat→AV) // p.1≤m}) (fun p=>SCt1 p.1.1) (fun s=>HCtB c d p q k0 k1 k f n m g s.1.2) (fun p=>m - p.1.1) ⟨(0,h),Nat.zero_le _⟩ 0 hle ?_ (by kernel_rfl)
 rintro⟨⟨i,h⟩,hil⟩
 simp only at hil
 refine zb.run hmix jF [5,7,12,16,17,18,19,121,122,123] 400 (T:=.ite (decide ((↑i:Int)<m)) (.side ((0:Int)≤i∧(↑i:Int)<m) (.side (inR .i64 ((↑i:Int)+(1:Int))) (.leaf (.back 0 [(5,.ptr 2 0),(7,.ptr 3 0),(12,.ptr 9 0),(16,.bool true),(17,.int .i64 ((↑i:Int)+(1:Int))),(18,.undef),(19,.undef),(121,.undef),(122,.undef),(123,.undef)] [.dead,.dead,.box (Con.ze c),.box (Con.zz c),.dead,.dead,.box [.int .u8 k0,.str p.rat,.str p.name,.int .i64 p.date,.sl p.sub.length 5 p.deep,.int .u8 k1,.str q.rat,.str q.name,.int .i64 q.date,.sl q.sub.length 5 q.deep],.arr n 1 g,.arr m 12 (updG h (0+Int.toNat (↑i:Int)) 0 [.int .u8 77]),.box [.int .u8 d.kind,.str d.src,.str d.dst,.str d.name,.int .u8 (Ex.kind d.x),.str (Ex.rat d.x),.str (Ex.name d.x),.int .i64 (Ex.date d.x),.osl 6 5 0 2,.int .i64 d.date,.osl 7 1 0 n,.osl 8 12 0 m],.dead])))) (.leaf (.loop (Prod.fst (lps (inside K3 0) 0)) (Prod.snd (lps (inside K3 0) 0)) [(5,.ptr 2 0),(7,.ptr 3 0),(12,.ptr 9 0),(16,.bool true),(17,.int .i64 i),(18,.int .i64 0),(19,.undef),(121,.undef),(122,.undef),(123,.undef)] [.dead,.dead,.box (Con.ze c),.box (Con.zz c),.dead,.dead,.box [.int .u8 k0,.str p.rat,.str p.name,.int .i64 p.date,.sl p.sub.length 5 p.deep,.int .u8 k1,.str q.rat,.str q.name,.int .i64 q.date,.sl q.sub.length 5 q.deep],.arr n 1 g,.arr m 12 h,.box [.int .u8 d.kind,.str d.src,.str d.dst,.str d.name,.int .u8 (Ex.kind d.x),.str (Ex.rat d.x),.str (Ex.name d.x),.int .i64 (Ex.date d.x),.osl 6 5 0 2,.int .i64 d.date,.osl 7 1 0 n,.osl 8 12 0 m],.dead]))) (by kernel_rfl) ?_
 simp only [Tree.holds,zd,inR,lo,hi,Int.toNat_natCast]
 refine⟨fun hlt=> ?_,fun hge=> ?_⟩
 ·have hlt:i<m:=by have:=of_decide_eq_true hlt; omega
  refine⟨by omega,fun _=>⟨by omega,fun _=> ?_⟩⟩
  rw [if_pos trivial]
  exact⟨⟨(i+1,updG h (0+i) 0 [.int .u8 77]),hlt⟩,by show m - (i+1)<m - i; omega,by simp [SCt1],zZ _,by kernel_rfl,Nat.zero_le _⟩
 ·exact zk6 c d p q k0 k1 k f n m g h hb hkk hn hm hq _ _ ⟨by simp [SCt2],zZ _,by kernel_rfl,Nat.zero_le _⟩
theorem zb9{O:Nat→Prop}{w0:World}{Q:AV×Heap→Prop}{Hs:Nat→KV→Heap→Prop}(c d:Con)(p q:Ex)(k0 k1:Int)(k:Nat)(f:Nat→Nat→AV)(n m:Nat)(g h:Nat→Nat→AV)(hb:c.big<2^39)(hkk:k<2^40)(hq:Q (.bool true,[]))(kv:KV)(h':Heap)(hle:LeK 0 Tryz.f3.ntmps kv h' (SCt3 0) (HCtC c d p q k0 k1 k f n m g h)) :
  zb Tryz.prog Tryz.f3 O 0 w0 [] Hs (RetR wv 0 Q) (.code (.loop (lps (inside (inside K3 0) 0) 0).1)::(lps (inside (inside K3 0) 0) 0).2) (mk Tryz.f3.ntmps kv h'):=by
 have fin:∀ H:Heap,∃ r:Con×Con,(eqL [c.conA,c.conD] [r.1.conA,r.2.conA]∧r.1.big<1099511627776)∧(∃ b:Bool,b=true↔r.1=r.2)∧∀ b:Bool,(b=true↔r.1=r.2)→RetR wv 0 Q [.bool b] H:=by
  intro H
  refine⟨(c,c),⟨⟨zQ c,kK c,trivial⟩,by show c.big<_; omega⟩,⟨true,by simp⟩,fun b hb=> ?_⟩
  obtain rfl:b=true:=hb.2 rfl
  exact RetR.scal hq rfl (by simp [resV])
 refine zb.loop (ι:=Unit) (fun _=>SCt3 0) (fun _=>HCtC c d p q k0 k1 k f n m g h) (fun _=>0) () 0 hle ?_ (by kernel_rfl)
 rintro⟨⟩
 refine zb.run hmix jF [5,7,12,16,17,18,19,121,122,123] 400 (T:=.ite false (.side ((0:Int)≤0∧(0:Int)<0) .fail) (.ex (fun(x:Con×Con)=>true=true→eqL [(Con.conA c),(Con.conD c)] [(Con.conA x.1),(Con.conA x.2)]∧Con.big x.1<1099511627776) fun n_1=>.all (fun(x:Bool)=>true=true→(x=true↔n_1.1=n_1.2)) fun n_2=>.leaf (.ret [.bool (bif true then n_2 else false)] [.dead,.dead,.box (Con.ze c),.box (Con.zz c),.dead,.dead,.dead,.arr n 1 g,.arr m 12 h,.box [.int .u8 d.kind,.str d.src,.str d.dst,.str d.name,.int .u8 (Ex.kind d.x),.str (Ex.rat d.x),.str (Ex.name d.x),.int .i64 (Ex.date d.x),.sl 0 5 f,.int .i64 d.date,.osl 7 1 0 n,.osl 8 12 0 m],.dead]))) (by kernel_rfl) ?_
 simp only [Tree.holds,zd,inR,lo,hi,Int.toNat_natCast]
 refine⟨fun h=>(by cases h),fun _=> ?_⟩
 obtain⟨r,h1,⟨b,h2⟩,h3⟩:=fin _
 exact⟨r,fun _=>h1,⟨b,fun _=>h2⟩,fun b hb=>h3 b (hb trivial)⟩
theorem ziz{O:Nat→Prop}{w0:World}{Q:AV×Heap→Prop}{Hs:Nat→KV→Heap→Prop}(c d:Con)(p q:Ex)(k0 k1:Int)(k:Nat)(f:Nat→Nat→AV)(n m:Nat)(g h:Nat→Nat→AV)(hb:c.big<2^39)(hkk:k<2^40)(hn:n<2^40)(hm:m<2^40)(hq:Q (.bool true,[]))(kv:KV)(h':Heap)(hle:LeK 0 Tryz.f3.ntmps kv h' (SCt2 0) (HCtC c d p q k0 k1 k f n m g h)) :
  zb Tryz.prog Tryz.f3 O 0 w0 [] Hs (RetR wv 0 Q) (.code (.loop (lps (inside K3 0) 0).1)::(lps (inside K3 0) 0).2) (mk Tryz.f3.ntmps kv h'):=by
 refine zb.loop (ι:={p:Nat×(Nat→Nat→AV) // p.1≤n}) (fun p=>SCt2 p.1.1) (fun s=>HCtC c d p q k0 k1 k f n m s.1.2 h) (fun p=>n - p.1.1) ⟨(0,g),Nat.zero_le _⟩ 0 hle ?_ (by kernel_rfl)
 rintro⟨⟨i,g⟩,hil⟩
 simp only at hil
 refine zb.run hmix jF [5,7,12,16,17,18,19,121,122,123] 400 (T:=.ite (decide ((↑i:Int)<n)) (.side ((0:Int)≤i∧(↑i:Int)<n) (.side (inR .i64 ((↑i:Int)+(1:Int))) (.leaf (.back 0 [(5,.ptr 2 0),(7,.ptr 3 0),(12,.ptr 9 0),(16,.bool true),(17,.undef),(18,.int .i64 ((↑i:Int)+(1:Int))),(19,.undef),(121,.undef),(122,.undef),(123,.undef)] [.dead,.dead,.box (Con.ze c),.box (Con.zz c),.dead,.dead,.dead,.arr n 1 (updG g (0+Int.toNat (↑i:Int)) 0 [.int .i64 (-7:Int)]),.arr m 12 h,.box [.int .u8 d.kind,.str d.src,.str d.dst,.str d.name,.int .u8 (Ex.kind d.x),.str (Ex.rat d.x),.str (Ex.name d.x),.int .i64 (Ex.date d.x),.sl 0 5 f,.int .i64 d.date,.osl 7 1 0 n,.osl 8 12 0 m],.dead])))) (.leaf (.loop (Prod.fst (lps (inside (inside K3 0) 0) 0)) (Prod.snd (lps (inside (inside K3 0) 0) 0)) [(5,.ptr 2 0),(7,.ptr 3 0),(12,.ptr 9 0),(16,.bool true),(17,.undef),(18,.int .i64 i),(19,.int .i64 0),(121,.undef),(122,.undef),(123,.undef)] [.dead,.dead,.box (Con.ze c),.box (Con.zz c),.dead,.dead,.dead,.arr n 1 g,.arr m 12 h,.box [.int .u8 d.kind,.str d.src,.str d.dst,.str d.name,.int .u8 (Ex.kind d.x),.str (Ex.rat d.x),.str (Ex.name d.x),.int .i64 (Ex.date d.x),.sl 0 5 f,.int .i64 d.date,.osl 7 1 0 n,.osl 8 12 0 m],.dead]))) (by kernel_rfl) ?_
 simp only [Tree.holds,zd,inR,lo,hi,Int.toNat_natCast]
 refine⟨fun hlt=> ?_,fun hge=> ?_⟩
 ·have hlt:i<n:=by have:=of_decide_eq_true hlt; omega
  refine⟨by omega,fun _=>⟨by omega,fun _=> ?_⟩⟩
  rw [if_pos trivial]
  exact⟨⟨(i+1,updG g (0+i) 0 [.int .i64 (-7)]),hlt⟩,by show n - (i+1)<n - i; omega,by simp [SCt2],zZ _,by kernel_rfl,Nat.zero_le _⟩
 ·exact zb9 c d p q k0 k1 k f n m g h hb hkk hq _ _ ⟨by simp [SCt3],zZ _,by kernel_rfl,Nat.zero_le _⟩
theorem zi8{O:Nat→Prop}{w0:World}{Q:AV×Heap→Prop}{Hs:Nat→KV→Heap→Prop}(c d:Con)(p q:Ex)(k0 k1:Int)(k:Nat)(f:Nat→Nat→AV)(n m:Nat)(g h:Nat→Nat→AV)(hb:c.big<2^39)(hkk:k<2^40)(hn:n<2^40)(hm:m<2^40)(hq:Q (.bool true,[]))(kv:KV)(h':Heap)(hle:LeK 0 Tryz.f3.ntmps kv h' (SCt1 0) (HCtC c d p q k0 k1 k f n m g h)) :
  zb Tryz.prog Tryz.f3 O 0 w0 [] Hs (RetR wv 0 Q) (.code (.loop (lps K3 0).1)::(lps K3 0).2) (mk Tryz.f3.ntmps kv h'):=by
 refine zb.loop (ι:={p:Nat×(Nat→Nat→AV) // p.1≤m}) (fun p=>SCt1 p.1.1) (fun s=>HCtC c d p q k0 k1 k f n m g s.1.2) (fun p=>m - p.1.1) ⟨(0,h),Nat.zero_le _⟩ 0 hle ?_ (by kernel_rfl)
 rintro⟨⟨i,h⟩,hil⟩
 simp only at hil
 refine zb.run hmix jF [5,7,12,16,17,18,19,121,122,123] 400 (T:=.ite (decide ((↑i:Int)<m)) (.side ((0:Int)≤i∧(↑i:Int)<m) (.side (inR .i64 ((↑i:Int)+(1:Int))) (.leaf (.back 0 [(5,.ptr 2 0),(7,.ptr 3 0),(12,.ptr 9 0),(16,.bool true),(17,.int .i64 ((↑i:Int)+(1:Int))),(18,.undef),(19,.undef),(121,.undef),(122,.undef),(123,.undef)] [.dead,.dead,.box (Con.ze c),.box (Con.zz c),.dead,.dead,.dead,.arr n 1 g,.arr m 12 (updG h (0+Int.toNat (↑i:Int)) 0 [.int .u8 77]),.box [.int .u8 d.kind,.str d.src,.str d.dst,.str d.name,.int .u8 (Ex.kind d.x),.str (Ex.rat d.x),.str (Ex.name d.x),.int .i64 (Ex.date d.x),.sl 0 5 f,.int .i64 d.date,.osl 7 1 0 n,.osl 8 12 0 m],.dead])))) (.leaf (.loop (Prod.fst (lps (inside K3 0) 0)) (Prod.snd (lps (inside K3 0) 0)) [(5,.ptr 2 0),(7,.ptr 3 0),(12,.ptr 9 0),(16,.bool true),(17,.int .i64 i),(18,.int .i64 0),(19,.undef),(121,.undef),(122,.undef),(123,.undef)] [.dead,.dead,.box (Con.ze c),.box (Con.zz c),.dead,.dead,.dead,.arr n 1 g,.arr m 12 h,.box [.int .u8 d.kind,.str d.src,.str d.dst,.str d.name,.int .u8 (Ex.kind d.x),.str (Ex.rat d.x),.str (Ex.name d.x),.int .i64 (Ex.date d.x),.sl 0 5 f,.int .i64 d.date,.osl 7 1 0 n,.osl 8 12 0 m],.dead]))) (by kernel_rfl) ?_
 simp only [Tree.holds,zd,inR,lo,hi,Int.toNat_natCast]
 refine⟨fun hlt=> ?_,fun hge=> ?_⟩
 ·have hlt:i<m:=by have:=of_decide_eq_true hlt; omega
  refine⟨by omega,fun _=>⟨by omega,fun _=> ?_⟩⟩
  rw [if_pos trivial]
  exact⟨⟨(i+1,updG h (0+i) 0 [.int .u8 77]),hlt⟩,by show m - (i+1)<m - i; omega,by simp [SCt1],zZ _,by kernel_rfl,Nat.zero_le _⟩
 ·exact ziz c d p q k0 k1 k f n m g h hb hkk hn hm hq _ _ ⟨by simp [SCt2],zZ _,by kernel_rfl,Nat.zero_le _⟩
theorem zex:zc Tryz.prog 3 wv:=by
 refine zf (fn:=Tryz.f3) (c:=Tryz.f3.body.getD .skip) rfl rfl rfl fun p hp O w0 Q hq=> ?_
 obtain⟨a,x,c⟩:=p
 obtain⟨hx,hc⟩:=hp
 replace hq:=hq _ rfl
 simp only at hx hc hq
 refine zb.run hmix jF [5,7,12,16,17,18,19,121,122,123] 400 (T:=.ex (fun(x:Ca)=>eqL [AV.agg [AV.str (Ca.name a),AV.str (Ca.into a),AV.int .i64 (Ca.date a),AV.str (Ca.ratio a),AV.str (Ca.extra a)]] [AV.agg [AV.str (Ca.name x),AV.str (Ca.into x),AV.int .i64 (Ca.date x),AV.str (Ca.ratio x),AV.str (Ca.extra x)]]∧True) fun n=>.all (fun(r:Bool)=>r=false→List.length (Ca.name n)≤1000∧List.length (Ca.into n)≤1000∧List.length (Ca.ratio n)≤1000∧List.length (Ca.extra n)≤1000) fun n=>.ex (fun(x_1:Ex)=>n=false→eqL [x.exA] [x_1.exA]∧Ex.thin x_1) fun n_1=>.all (fun(x:Bool)=>n=false→x=false→Ex.size n_1≤600∧Ex.zq n_1≤3000) fun n_2=>.ex (fun(x:Con)=>(bif n then true else n_2)=false→eqL [(Con.conA c)] [(Con.conA x)]∧Con.thin x) fun n_3=>.all (fun(x:Bool)=>(bif n then true else n_2)=false→x=false→Con.nodes n_3≤600∧Con.big n_3≤1900000) fun n_4=>.ite (bif bif n then true else n_2 then true else n_4) (.leaf (.ret [.bool true] [.box [.str (Ca.name a),.str (Ca.into a),.int .i64 (Ca.date a),.str (Ca.ratio a),.str (Ca.extra a)],.box [.int .u8 x.kind,.str x.rat,.str x.name,.int .i64 x.date,.sl x.sub.length 5 (Ex.exG x.sub)],.box (Con.ze c)])) (.ex (fun(x:Con)=>eqL [(Con.conA c)] [(Con.conA x)]∧Con.big x<274877906944) fun n=>.all (fun(x:Unit)=>True) fun n_5=>.ex (fun(x_1:Ca×Ex)=>eqL [AV.agg [AV.str (Ca.name a),AV.str (Ca.into a),AV.int .i64 (Ca.date a),AV.str (Ca.ratio a),AV.str (Ca.extra a)],x.exA] [AV.agg [AV.str (Ca.name x_1.1),AV.str (Ca.into x_1.1),AV.int .i64 (Ca.date x_1.1),AV.str (Ca.ratio x_1.1),AV.str (Ca.extra x_1.1)],x_1.2.exA]∧kC x_1.1∧Ex.size x_1.2<1048576∧Ex.zq x_1.2<1073741824) fun n_6=>.all (fun(x:Unit)=>True) fun n_7=>.ex (fun(x_1:Ca×Ex)=>eqL [AV.agg [AV.str (Ca.name a),AV.str (Ca.into a),AV.int .i64 (Ca.date a),AV.str (Ca.ratio a),AV.str (Ca.extra a)],x.exA] [AV.agg [AV.str (Ca.name x_1.1),AV.str (Ca.into x_1.1),AV.int .i64 (Ca.date x_1.1),AV.str (Ca.ratio x_1.1),AV.str (Ca.extra x_1.1)],x_1.2.exA]∧kC x_1.1∧Ex.size x_1.2<1048576∧Ex.zq x_1.2<1073741824) fun n_8=>.all (fun(x:Unit)=>True) fun n_9=>.ex (fun(x:Ca×Con)=>eqL [AV.agg [AV.str (Ca.name a),AV.str (Ca.into a),AV.int .i64 (Ca.date a),AV.str (Ca.ratio a),AV.str (Ca.extra a)],(Con.conA c)] [AV.agg [AV.str (Ca.name x.1),AV.str (Ca.into x.1),AV.int .i64 (Ca.date x.1),AV.str (Ca.ratio x.1),AV.str (Ca.extra x.1)],(Con.conA x.2)]∧eqH [] []∧0=0∧kC x.1∧Con.big x.2<67108864∧Con.nodes x.2≤1000000) fun n_10=>.ite (decide (Prod.snd (Ca.conv n_10.1 n_10.2)=(0:Int))&&on n_10.1 (Con.x n_10.2)&&vw n_10.1) (.ex (fun(x:Ca×Con)=>eqL [AV.agg [AV.str (Ca.name a),AV.str (Ca.into a),AV.int .i64 (Ca.date a),AV.str (Ca.ratio a),AV.str (Ca.extra a)],(Con.conA c)] [AV.agg [AV.str (Ca.name x.1),AV.str (Ca.into x.1),AV.int .i64 (Ca.date x.1),AV.str (Ca.ratio x.1),AV.str (Ca.extra x.1)],(Con.conA x.2)]∧kC x.1∧Con.big x.2<67108864∧Con.nodes x.2≤1000000) fun n_11=>.all (fun(x:Unit)=>True) fun n_12=>.ex (fun(x:Ex×Ex)=>eqL [(exD (Prod.fst (Ca.expr n_6.1 n_6.2))),(exD (Prod.fst (Ca.expr n_8.1 n_8.2)))] [x.1.exA,x.2.exA]∧Ex.size x.1<1152921504606846976) fun n_13=>.all (fun(r:Bool)=>r=true↔n_13.1=n_13.2) fun n_14=>.ex (fun(x:Con×Con)=>(bif n_14 then decide (Prod.snd (Ca.expr n_6.1 n_6.2)=Prod.snd (Ca.expr n_8.1 n_8.2)) else false)=true→eqL [AV.agg [AV.int .u8 (Con.kind (Prod.fst (Ca.conv n_10.1 n_10.2))),AV.str (Con.src (Prod.fst (Ca.conv n_10.1 n_10.2))),AV.str (Con.dst (Prod.fst (Ca.conv n_10.1 n_10.2))),AV.str (Con.name (Prod.fst (Ca.conv n_10.1 n_10.2))),AV.int .u8 (Ex.kind (Con.x (Prod.fst (Ca.conv n_10.1 n_10.2)))),AV.str (Ex.rat (Con.x (Prod.fst (Ca.conv n_10.1 n_10.2)))),AV.str (Ex.name (Con.x (Prod.fst (Ca.conv n_10.1 n_10.2)))),AV.int .i64 (Ex.date (Con.x (Prod.fst (Ca.conv n_10.1 n_10.2)))),AV.sl (List.length (Ex.sub (Con.x (Prod.fst (Ca.conv n_10.1 n_10.2))))) 5 (Ex.deep (Con.x (Prod.fst (Ca.conv n_10.1 n_10.2)))),AV.int .i64 (Con.date (Prod.fst (Ca.conv n_10.1 n_10.2))),AV.sl (List.length (Con.days (Prod.fst (Ca.conv n_10.1 n_10.2)))) 1 (zg (Con.dayG (Con.days (Prod.fst (Ca.conv n_10.1 n_10.2)))) 0),AV.sl (List.length (Con.sub (Prod.fst (Ca.conv n_10.1 n_10.2)))) 12 (zg (Con.conG (Con.sub (Prod.fst (Ca.conv n_10.1 n_10.2)))) 0)],(Con.conD (Prod.fst (Ca.conv n_11.1 n_11.2)))] [(Con.conA x.1),(Con.conA x.2)]∧Con.big x.1<1099511627776) fun n_15=>.all (fun(x:Bool)=>(bif n_14 then decide (Prod.snd (Ca.expr n_6.1 n_6.2)=Prod.snd (Ca.expr n_8.1 n_8.2)) else false)=true→(x=true↔n_15.1=n_15.2)) fun n_16=>.ex (fun(x:Ca)=>(bif bif bif n_14 then decide (Prod.snd (Ca.expr n_6.1 n_6.2)=Prod.snd (Ca.expr n_8.1 n_8.2)) else false then n_16 else false then decide (Prod.snd (Ca.conv n_10.1 n_10.2)=Prod.snd (Ca.conv n_11.1 n_11.2)) else false)=true→eqL [AV.agg [AV.str (Ca.name a),AV.str (Ca.into a),AV.int .i64 (Ca.date a),AV.str (Ca.ratio a),AV.str (Ca.extra a)]] [AV.agg [AV.str (Ca.name x),AV.str (Ca.into x),AV.int .i64 (Ca.date x),AV.str (Ca.ratio x),AV.str (Ca.extra x)]]∧wD x) fun n_17=>.all (fun(x:Int)=>(bif bif bif n_14 then decide (Prod.snd (Ca.expr n_6.1 n_6.2)=Prod.snd (Ca.expr n_8.1 n_8.2)) else false then n_16 else false then decide (Prod.snd (Ca.conv n_10.1 n_10.2)=Prod.snd (Ca.conv n_11.1 n_11.2)) else false)=true→x=if Ca.ok n_17=true then(0:Int) else(8:Int)) fun n_18=>.ex (fun(x:Ca)=>(bif bif bif n_14 then decide (Prod.snd (Ca.expr n_6.1 n_6.2)=Prod.snd (Ca.expr n_8.1 n_8.2)) else false then n_16 else false then decide (Prod.snd (Ca.conv n_10.1 n_10.2)=Prod.snd (Ca.conv n_11.1 n_11.2)) else false)=true→eqL [AV.agg [AV.str (Ca.name a),AV.str (Ca.into a),AV.int .i64 (Ca.date a),AV.str (Ca.ratio a),AV.str (Ca.extra a)]] [AV.agg [AV.str (Ca.name x),AV.str (Ca.into x),AV.int .i64 (Ca.date x),AV.str (Ca.ratio x),AV.str (Ca.extra x)]]∧wD x) fun n_19=>.all (fun(x:Bool)=>(bif bif bif n_14 then decide (Prod.snd (Ca.expr n_6.1 n_6.2)=Prod.snd (Ca.expr n_8.1 n_8.2)) else false then n_16 else false then decide (Prod.snd (Ca.conv n_10.1 n_10.2)=Prod.snd (Ca.conv n_11.1 n_11.2)) else false)=true→x=Ca.ok n_19) fun n_20=>.leaf (.loop (Prod.fst (lps K3 0)) (Prod.snd (lps K3 0)) [(5,.ptr 2 0),(7,.ptr 3 0),(12,.ptr 9 0),(16,.bool (bif bif bif bif n_14 then decide (Prod.snd (Ca.expr n_6.1 n_6.2)=Prod.snd (Ca.expr n_8.1 n_8.2)) else false then n_16 else false then decide (Prod.snd (Ca.conv n_10.1 n_10.2)=Prod.snd (Ca.conv n_11.1 n_11.2)) else false then decide (n_18=0) == n_20 else false)),(17,.int .i64 0),(18,.undef),(19,.undef),(121,.undef),(122,.undef),(123,.undef)] [.box [.str (Ca.name a),.str (Ca.into a),.int .i64 (Ca.date a),.str (Ca.ratio a),.str (Ca.extra a)],.box [.int .u8 x.kind,.str x.rat,.str x.name,.int .i64 x.date,.sl x.sub.length 5 (Ex.exG x.sub)],.box (Con.ze c),.box (Con.zz n),.box (Ex.cellsD (Prod.fst (Ca.expr n_6.1 n_6.2))),.box (Ex.cellsD (Prod.fst (Ca.expr n_8.1 n_8.2))),.dead,.arr (List.length (Con.days (Prod.fst (Ca.conv n_10.1 n_10.2)))) 1 (Con.dayG (Con.days (Prod.fst (Ca.conv n_10.1 n_10.2)))),.arr (List.length (Con.sub (Prod.fst (Ca.conv n_10.1 n_10.2)))) 12 (Con.conG (Con.sub (Prod.fst (Ca.conv n_10.1 n_10.2)))),.box [.int .u8 (Con.kind (Prod.fst (Ca.conv n_10.1 n_10.2))),.str (Con.src (Prod.fst (Ca.conv n_10.1 n_10.2))),.str (Con.dst (Prod.fst (Ca.conv n_10.1 n_10.2))),.str (Con.name (Prod.fst (Ca.conv n_10.1 n_10.2))),.int .u8 (Ex.kind (Con.x (Prod.fst (Ca.conv n_10.1 n_10.2)))),.str (Ex.rat (Con.x (Prod.fst (Ca.conv n_10.1 n_10.2)))),.str (Ex.name (Con.x (Prod.fst (Ca.conv n_10.1 n_10.2)))),.int .i64 (Ex.date (Con.x (Prod.fst (Ca.conv n_10.1 n_10.2)))),.sl (List.length (Ex.sub (Con.x (Prod.fst (Ca.conv n_10.1 n_10.2))))) 5 (Ex.deep (Con.x (Prod.fst (Ca.conv n_10.1 n_10.2)))),.int .i64 (Con.date (Prod.fst (Ca.conv n_10.1 n_10.2))),.osl 7 1 0 (List.length (Con.days (Prod.fst (Ca.conv n_10.1 n_10.2)))),.osl 8 12 0 (List.length (Con.sub (Prod.fst (Ca.conv n_10.1 n_10.2))))],.box (Con.zz (Prod.fst (Ca.conv n_11.1 n_11.2)))])) (.ite (decide (Prod.snd (Ca.conv n_10.1 n_10.2)=(0:Int))&&on n_10.1 (Con.x n_10.2)&&vr n_10.1) (.ex (fun(x:Ca×Con)=>eqL [AV.agg [AV.str (Ca.name a),AV.str (Ca.into a),AV.int .i64 (Ca.date a),AV.str (Ca.ratio a),AV.str (Ca.extra a)],(Con.conA c)] [AV.agg [AV.str (Ca.name x.1),AV.str (Ca.into x.1),AV.int .i64 (Ca.date x.1),AV.str (Ca.ratio x.1),AV.str (Ca.extra x.1)],(Con.conA x.2)]∧kC x.1∧Con.big x.2<67108864∧Con.nodes x.2≤1000000) fun n_11=>.all (fun(x:Unit)=>True) fun n_12=>.ex (fun(x:Ex×Ex)=>eqL [(exD (Prod.fst (Ca.expr n_6.1 n_6.2))),(exD (Prod.fst (Ca.expr n_8.1 n_8.2)))] [x.1.exA,x.2.exA]∧Ex.size x.1<1152921504606846976) fun n_13=>.all (fun(r:Bool)=>r=true↔n_13.1=n_13.2) fun n_14=>.ex (fun(x:Con×Con)=>(bif n_14 then decide (Prod.snd (Ca.expr n_6.1 n_6.2)=Prod.snd (Ca.expr n_8.1 n_8.2)) else false)=true→eqL [AV.agg [AV.int .u8 (Con.kind (Prod.fst (Ca.conv n_10.1 n_10.2))),AV.str (Con.src (Prod.fst (Ca.conv n_10.1 n_10.2))),AV.str (Con.dst (Prod.fst (Ca.conv n_10.1 n_10.2))),AV.str (Con.name (Prod.fst (Ca.conv n_10.1 n_10.2))),AV.int .u8 (Ex.kind (Con.x (Prod.fst (Ca.conv n_10.1 n_10.2)))),AV.str (Ex.rat (Con.x (Prod.fst (Ca.conv n_10.1 n_10.2)))),AV.str (Ex.name (Con.x (Prod.fst (Ca.conv n_10.1 n_10.2)))),AV.int .i64 (Ex.date (Con.x (Prod.fst (Ca.conv n_10.1 n_10.2)))),AV.sl 2 5 (zg (zh 5 [AV.int .u8 (Ex.kind (List.getD (Ex.sub (Con.x (Prod.fst (Ca.conv n_10.1 n_10.2)))) 0 Ex.nil)),AV.str (Ex.rat (List.getD (Ex.sub (Con.x (Prod.fst (Ca.conv n_10.1 n_10.2)))) 0 Ex.nil)),AV.str (Ex.name (List.getD (Ex.sub (Con.x (Prod.fst (Ca.conv n_10.1 n_10.2)))) 0 Ex.nil)),AV.int .i64 (Ex.date (List.getD (Ex.sub (Con.x (Prod.fst (Ca.conv n_10.1 n_10.2)))) 0 Ex.nil)),AV.sl (List.length (Ex.sub (List.getD (Ex.sub (Con.x (Prod.fst (Ca.conv n_10.1 n_10.2)))) 0 Ex.nil))) 5 (Ex.deep (List.getD (Ex.sub (Con.x (Prod.fst (Ca.conv n_10.1 n_10.2)))) 0 Ex.nil)),AV.int .u8 (Ex.kind (List.getD (Ex.sub (Con.x (Prod.fst (Ca.conv n_10.1 n_10.2)))) 1 Ex.nil)),AV.str (Ex.rat (List.getD (Ex.sub (Con.x (Prod.fst (Ca.conv n_10.1 n_10.2)))) 1 Ex.nil)),AV.str (Ex.name (List.getD (Ex.sub (Con.x (Prod.fst (Ca.conv n_10.1 n_10.2)))) 1 Ex.nil)),AV.int .i64 (Ex.date (List.getD (Ex.sub (Con.x (Prod.fst (Ca.conv n_10.1 n_10.2)))) 1 Ex.nil)),AV.sl (List.length (Ex.sub (List.getD (Ex.sub (Con.x (Prod.fst (Ca.conv n_10.1 n_10.2)))) 1 Ex.nil))) 5 (Ex.deep (List.getD (Ex.sub (Con.x (Prod.fst (Ca.conv n_10.1 n_10.2)))) 1 Ex.nil))]) 0),AV.int .i64 (Con.date (Prod.fst (Ca.conv n_10.1 n_10.2))),AV.sl (List.length (Con.days (Prod.fst (Ca.conv n_10.1 n_10.2)))) 1 (zg (Con.dayG (Con.days (Prod.fst (Ca.conv n_10.1 n_10.2)))) 0),AV.sl (List.length (Con.sub (Prod.fst (Ca.conv n_10.1 n_10.2)))) 12 (zg (Con.conG (Con.sub (Prod.fst (Ca.conv n_10.1 n_10.2)))) 0)],(Con.conD (Prod.fst (Ca.conv n_11.1 n_11.2)))] [(Con.conA x.1),(Con.conA x.2)]∧Con.big x.1<1099511627776) fun n_15=>.all (fun(x:Bool)=>(bif n_14 then decide (Prod.snd (Ca.expr n_6.1 n_6.2)=Prod.snd (Ca.expr n_8.1 n_8.2)) else false)=true→(x=true↔n_15.1=n_15.2)) fun n_16=>.ex (fun(x:Ca)=>(bif bif bif n_14 then decide (Prod.snd (Ca.expr n_6.1 n_6.2)=Prod.snd (Ca.expr n_8.1 n_8.2)) else false then n_16 else false then decide (Prod.snd (Ca.conv n_10.1 n_10.2)=Prod.snd (Ca.conv n_11.1 n_11.2)) else false)=true→eqL [AV.agg [AV.str (Ca.name a),AV.str (Ca.into a),AV.int .i64 (Ca.date a),AV.str (Ca.ratio a),AV.str (Ca.extra a)]] [AV.agg [AV.str (Ca.name x),AV.str (Ca.into x),AV.int .i64 (Ca.date x),AV.str (Ca.ratio x),AV.str (Ca.extra x)]]∧wD x) fun n_17=>.all (fun(x:Int)=>(bif bif bif n_14 then decide (Prod.snd (Ca.expr n_6.1 n_6.2)=Prod.snd (Ca.expr n_8.1 n_8.2)) else false then n_16 else false then decide (Prod.snd (Ca.conv n_10.1 n_10.2)=Prod.snd (Ca.conv n_11.1 n_11.2)) else false)=true→x=if Ca.ok n_17=true then(0:Int) else(8:Int)) fun n_18=>.ex (fun(x:Ca)=>(bif bif bif n_14 then decide (Prod.snd (Ca.expr n_6.1 n_6.2)=Prod.snd (Ca.expr n_8.1 n_8.2)) else false then n_16 else false then decide (Prod.snd (Ca.conv n_10.1 n_10.2)=Prod.snd (Ca.conv n_11.1 n_11.2)) else false)=true→eqL [AV.agg [AV.str (Ca.name a),AV.str (Ca.into a),AV.int .i64 (Ca.date a),AV.str (Ca.ratio a),AV.str (Ca.extra a)]] [AV.agg [AV.str (Ca.name x),AV.str (Ca.into x),AV.int .i64 (Ca.date x),AV.str (Ca.ratio x),AV.str (Ca.extra x)]]∧wD x) fun n_19=>.all (fun(x:Bool)=>(bif bif bif n_14 then decide (Prod.snd (Ca.expr n_6.1 n_6.2)=Prod.snd (Ca.expr n_8.1 n_8.2)) else false then n_16 else false then decide (Prod.snd (Ca.conv n_10.1 n_10.2)=Prod.snd (Ca.conv n_11.1 n_11.2)) else false)=true→x=Ca.ok n_19) fun n_20=>.leaf (.loop (Prod.fst (lps K3 0)) (Prod.snd (lps K3 0)) [(5,.ptr 2 0),(7,.ptr 3 0),(12,.ptr 9 0),(16,.bool (bif bif bif bif n_14 then decide (Prod.snd (Ca.expr n_6.1 n_6.2)=Prod.snd (Ca.expr n_8.1 n_8.2)) else false then n_16 else false then decide (Prod.snd (Ca.conv n_10.1 n_10.2)=Prod.snd (Ca.conv n_11.1 n_11.2)) else false then decide (n_18=0) == n_20 else false)),(17,.int .i64 0),(18,.undef),(19,.undef),(121,.undef),(122,.undef),(123,.undef)] [.box [.str (Ca.name a),.str (Ca.into a),.int .i64 (Ca.date a),.str (Ca.ratio a),.str (Ca.extra a)],.box [.int .u8 x.kind,.str x.rat,.str x.name,.int .i64 x.date,.sl x.sub.length 5 (Ex.exG x.sub)],.box (Con.ze c),.box (Con.zz n),.box (Ex.cellsD (Prod.fst (Ca.expr n_6.1 n_6.2))),.box (Ex.cellsD (Prod.fst (Ca.expr n_8.1 n_8.2))),.box [.int .u8 (Ex.kind (List.getD (Ex.sub (Con.x (Prod.fst (Ca.conv n_10.1 n_10.2)))) 0 Ex.nil)),.str (Ex.rat (List.getD (Ex.sub (Con.x (Prod.fst (Ca.conv n_10.1 n_10.2)))) 0 Ex.nil)),.str (Ex.name (List.getD (Ex.sub (Con.x (Prod.fst (Ca.conv n_10.1 n_10.2)))) 0 Ex.nil)),.int .i64 (Ex.date (List.getD (Ex.sub (Con.x (Prod.fst (Ca.conv n_10.1 n_10.2)))) 0 Ex.nil)),.sl (List.length (Ex.sub (List.getD (Ex.sub (Con.x (Prod.fst (Ca.conv n_10.1 n_10.2)))) 0 Ex.nil))) 5 (Ex.deep (List.getD (Ex.sub (Con.x (Prod.fst (Ca.conv n_10.1 n_10.2)))) 0 Ex.nil)),.int .u8 (Ex.kind (List.getD (Ex.sub (Con.x (Prod.fst (Ca.conv n_10.1 n_10.2)))) 1 Ex.nil)),.str (Ex.rat (List.getD (Ex.sub (Con.x (Prod.fst (Ca.conv n_10.1 n_10.2)))) 1 Ex.nil)),.str (Ex.name (List.getD (Ex.sub (Con.x (Prod.fst (Ca.conv n_10.1 n_10.2)))) 1 Ex.nil)),.int .i64 (Ex.date (List.getD (Ex.sub (Con.x (Prod.fst (Ca.conv n_10.1 n_10.2)))) 1 Ex.nil)),.sl (List.length (Ex.sub (List.getD (Ex.sub (Con.x (Prod.fst (Ca.conv n_10.1 n_10.2)))) 1 Ex.nil))) 5 (Ex.deep (List.getD (Ex.sub (Con.x (Prod.fst (Ca.conv n_10.1 n_10.2)))) 1 Ex.nil))],.arr (List.length (Con.days (Prod.fst (Ca.conv n_10.1 n_10.2)))) 1 (Con.dayG (Con.days (Prod.fst (Ca.conv n_10.1 n_10.2)))),.arr (List.length (Con.sub (Prod.fst (Ca.conv n_10.1 n_10.2)))) 12 (Con.conG (Con.sub (Prod.fst (Ca.conv n_10.1 n_10.2)))),.box [.int .u8 (Con.kind (Prod.fst (Ca.conv n_10.1 n_10.2))),.str (Con.src (Prod.fst (Ca.conv n_10.1 n_10.2))),.str (Con.dst (Prod.fst (Ca.conv n_10.1 n_10.2))),.str (Con.name (Prod.fst (Ca.conv n_10.1 n_10.2))),.int .u8 (Ex.kind (Con.x (Prod.fst (Ca.conv n_10.1 n_10.2)))),.str (Ex.rat (Con.x (Prod.fst (Ca.conv n_10.1 n_10.2)))),.str (Ex.name (Con.x (Prod.fst (Ca.conv n_10.1 n_10.2)))),.int .i64 (Ex.date (Con.x (Prod.fst (Ca.conv n_10.1 n_10.2)))),.osl 6 5 0 2,.int .i64 (Con.date (Prod.fst (Ca.conv n_10.1 n_10.2))),.osl 7 1 0 (List.length (Con.days (Prod.fst (Ca.conv n_10.1 n_10.2)))),.osl 8 12 0 (List.length (Con.sub (Prod.fst (Ca.conv n_10.1 n_10.2))))],.box (Con.zz (Prod.fst (Ca.conv n_11.1 n_11.2)))])) (.ex (fun(x:Ca×Con)=>eqL [AV.agg [AV.str (Ca.name a),AV.str (Ca.into a),AV.int .i64 (Ca.date a),AV.str (Ca.ratio a),AV.str (Ca.extra a)],(Con.conA c)] [AV.agg [AV.str (Ca.name x.1),AV.str (Ca.into x.1),AV.int .i64 (Ca.date x.1),AV.str (Ca.ratio x.1),AV.str (Ca.extra x.1)],(Con.conA x.2)]∧kC x.1∧Con.big x.2<67108864∧Con.nodes x.2≤1000000) fun n_11=>.all (fun(x:Unit)=>True) fun n_12=>.ex (fun(x:Ex×Ex)=>eqL [(exD (Prod.fst (Ca.expr n_6.1 n_6.2))),(exD (Prod.fst (Ca.expr n_8.1 n_8.2)))] [x.1.exA,x.2.exA]∧Ex.size x.1<1152921504606846976) fun n_13=>.all (fun(r:Bool)=>r=true↔n_13.1=n_13.2) fun n_14=>.ex (fun(x:Con×Con)=>(bif n_14 then decide (Prod.snd (Ca.expr n_6.1 n_6.2)=Prod.snd (Ca.expr n_8.1 n_8.2)) else false)=true→eqL [AV.agg [AV.int .u8 (Con.kind (Prod.fst (Ca.conv n_10.1 n_10.2))),AV.str (Con.src (Prod.fst (Ca.conv n_10.1 n_10.2))),AV.str (Con.dst (Prod.fst (Ca.conv n_10.1 n_10.2))),AV.str (Con.name (Prod.fst (Ca.conv n_10.1 n_10.2))),AV.int .u8 (Ex.kind (Con.x (Prod.fst (Ca.conv n_10.1 n_10.2)))),AV.str (Ex.rat (Con.x (Prod.fst (Ca.conv n_10.1 n_10.2)))),AV.str (Ex.name (Con.x (Prod.fst (Ca.conv n_10.1 n_10.2)))),AV.int .i64 (Ex.date (Con.x (Prod.fst (Ca.conv n_10.1 n_10.2)))),AV.sl (List.length (Ex.sub (Con.x (Prod.fst (Ca.conv n_10.1 n_10.2))))) 5 (zg (Ex.exG (Ex.sub (Con.x (Prod.fst (Ca.conv n_10.1 n_10.2))))) 0),AV.int .i64 (Con.date (Prod.fst (Ca.conv n_10.1 n_10.2))),AV.sl (List.length (Con.days (Prod.fst (Ca.conv n_10.1 n_10.2)))) 1 (zg (Con.dayG (Con.days (Prod.fst (Ca.conv n_10.1 n_10.2)))) 0),AV.sl (List.length (Con.sub (Prod.fst (Ca.conv n_10.1 n_10.2)))) 12 (zg (Con.conG (Con.sub (Prod.fst (Ca.conv n_10.1 n_10.2)))) 0)],(Con.conD (Prod.fst (Ca.conv n_11.1 n_11.2)))] [(Con.conA x.1),(Con.conA x.2)]∧Con.big x.1<1099511627776) fun n_15=>.all (fun(x:Bool)=>(bif n_14 then decide (Prod.snd (Ca.expr n_6.1 n_6.2)=Prod.snd (Ca.expr n_8.1 n_8.2)) else false)=true→(x=true↔n_15.1=n_15.2)) fun n_16=>.ex (fun(x:Ca)=>(bif bif bif n_14 then decide (Prod.snd (Ca.expr n_6.1 n_6.2)=Prod.snd (Ca.expr n_8.1 n_8.2)) else false then n_16 else false then decide (Prod.snd (Ca.conv n_10.1 n_10.2)=Prod.snd (Ca.conv n_11.1 n_11.2)) else false)=true→eqL [AV.agg [AV.str (Ca.name a),AV.str (Ca.into a),AV.int .i64 (Ca.date a),AV.str (Ca.ratio a),AV.str (Ca.extra a)]] [AV.agg [AV.str (Ca.name x),AV.str (Ca.into x),AV.int .i64 (Ca.date x),AV.str (Ca.ratio x),AV.str (Ca.extra x)]]∧wD x) fun n_17=>.all (fun(x:Int)=>(bif bif bif n_14 then decide (Prod.snd (Ca.expr n_6.1 n_6.2)=Prod.snd (Ca.expr n_8.1 n_8.2)) else false then n_16 else false then decide (Prod.snd (Ca.conv n_10.1 n_10.2)=Prod.snd (Ca.conv n_11.1 n_11.2)) else false)=true→x=if Ca.ok n_17=true then(0:Int) else(8:Int)) fun n_18=>.ex (fun(x:Ca)=>(bif bif bif n_14 then decide (Prod.snd (Ca.expr n_6.1 n_6.2)=Prod.snd (Ca.expr n_8.1 n_8.2)) else false then n_16 else false then decide (Prod.snd (Ca.conv n_10.1 n_10.2)=Prod.snd (Ca.conv n_11.1 n_11.2)) else false)=true→eqL [AV.agg [AV.str (Ca.name a),AV.str (Ca.into a),AV.int .i64 (Ca.date a),AV.str (Ca.ratio a),AV.str (Ca.extra a)]] [AV.agg [AV.str (Ca.name x),AV.str (Ca.into x),AV.int .i64 (Ca.date x),AV.str (Ca.ratio x),AV.str (Ca.extra x)]]∧wD x) fun n_19=>.all (fun(x:Bool)=>(bif bif bif n_14 then decide (Prod.snd (Ca.expr n_6.1 n_6.2)=Prod.snd (Ca.expr n_8.1 n_8.2)) else false then n_16 else false then decide (Prod.snd (Ca.conv n_10.1 n_10.2)=Prod.snd (Ca.conv n_11.1 n_11.2)) else false)=true→x=Ca.ok n_19) fun n_20=>.leaf (.loop (Prod.fst (lps K3 0)) (Prod.snd (lps K3 0)) [(5,.ptr 2 0),(7,.ptr 3 0),(12,.ptr 9 0),(16,.bool (bif bif bif bif n_14 then decide (Prod.snd (Ca.expr n_6.1 n_6.2)=Prod.snd (Ca.expr n_8.1 n_8.2)) else false then n_16 else false then decide (Prod.snd (Ca.conv n_10.1 n_10.2)=Prod.snd (Ca.conv n_11.1 n_11.2)) else false then decide (n_18=0) == n_20 else false)),(17,.int .i64 0),(18,.undef),(19,.undef),(121,.undef),(122,.undef),(123,.undef)] [.box [.str (Ca.name a),.str (Ca.into a),.int .i64 (Ca.date a),.str (Ca.ratio a),.str (Ca.extra a)],.box [.int .u8 x.kind,.str x.rat,.str x.name,.int .i64 x.date,.sl x.sub.length 5 (Ex.exG x.sub)],.box (Con.ze c),.box (Con.zz n),.box (Ex.cellsD (Prod.fst (Ca.expr n_6.1 n_6.2))),.box (Ex.cellsD (Prod.fst (Ca.expr n_8.1 n_8.2))),.arr (List.length (Ex.sub (Con.x (Prod.fst (Ca.conv n_10.1 n_10.2))))) 5 (Ex.exG (Ex.sub (Con.x (Prod.fst (Ca.conv n_10.1 n_10.2))))),.arr (List.length (Con.days (Prod.fst (Ca.conv n_10.1 n_10.2)))) 1 (Con.dayG (Con.days (Prod.fst (Ca.conv n_10.1 n_10.2)))),.arr (List.length (Con.sub (Prod.fst (Ca.conv n_10.1 n_10.2)))) 12 (Con.conG (Con.sub (Prod.fst (Ca.conv n_10.1 n_10.2)))),.box [.int .u8 (Con.kind (Prod.fst (Ca.conv n_10.1 n_10.2))),.str (Con.src (Prod.fst (Ca.conv n_10.1 n_10.2))),.str (Con.dst (Prod.fst (Ca.conv n_10.1 n_10.2))),.str (Con.name (Prod.fst (Ca.conv n_10.1 n_10.2))),.int .u8 (Ex.kind (Con.x (Prod.fst (Ca.conv n_10.1 n_10.2)))),.str (Ex.rat (Con.x (Prod.fst (Ca.conv n_10.1 n_10.2)))),.str (Ex.name (Con.x (Prod.fst (Ca.conv n_10.1 n_10.2)))),.int .i64 (Ex.date (Con.x (Prod.fst (Ca.conv n_10.1 n_10.2)))),.osl 6 5 0 (List.length (Ex.sub (Con.x (Prod.fst (Ca.conv n_10.1 n_10.2))))),.int .i64 (Con.date (Prod.fst (Ca.conv n_10.1 n_10.2))),.osl 7 1 0 (List.length (Con.days (Prod.fst (Ca.conv n_10.1 n_10.2)))),.osl 8 12 0 (List.length (Con.sub (Prod.fst (Ca.conv n_10.1 n_10.2))))],.box (Con.zz (Prod.fst (Ca.conv n_11.1 n_11.2)))]))))) (by kernel_rfl) ?_
 simp only [Tree.holds,zd,inR,lo,hi,Int.toNat_natCast]
 have ha:eqA (.agg [.str a.name,.str a.into,.int .i64 a.date,.str a.ratio,.str a.extra]) a.av:=⟨rfl,rfl,⟨rfl,rfl⟩,rfl,rfl,trivial⟩
 refine⟨a,⟨⟨ha,trivial⟩,trivial⟩,⟨true,fun h=>by cases h⟩,fun b1 g1=> ?_⟩
 refine⟨x,fun _=>⟨⟨zD x,trivial⟩,hx⟩,⟨true,fun _ h=>by cases h⟩,fun b2 g2=> ?_⟩
 refine⟨c,fun _=>⟨⟨zQ c,trivial⟩,hc⟩,⟨true,fun _ h=>by cases h⟩,fun b3 g3=>⟨fun _=>RetR.scal hq rfl (by simp [resV]),fun h=> ?_⟩⟩
 obtain⟨rfl,rfl,rfl⟩:b1=false∧b2=false∧b3=false:=by cases b1<;>cases b2<;>cases b3<;>simp at h ⊢
 have ht:kC a:=g1 rfl
 obtain⟨x1,x2⟩:=g2 rfl rfl
 obtain⟨k1,k2⟩:=g3 rfl rfl
 clear g1 g2 g3 h
 refine⟨c,⟨⟨zQ c,trivial⟩,by omega⟩,⟨(),trivial⟩,fun _ _=> ?_⟩
 refine⟨(a,x),⟨⟨ha,zD x,trivial⟩,ht,by simp only; omega,by simp only; omega⟩,⟨(),trivial⟩,fun _ _=> ?_⟩
 refine⟨(a,x),⟨⟨ha,zD x,trivial⟩,ht,by simp only; omega,by simp only; omega⟩,⟨(),trivial⟩,fun _ _=> ?_⟩
 refine⟨(a,c),⟨⟨ha,zQ c,trivial⟩,by simp,trivial,ht,by simp only; omega,by simp only; omega⟩,?_⟩
 obtain⟨p,hp⟩:∃ p,a.conv c=p:=⟨_,rfl⟩
 obtain⟨d,e⟩:=p
 have hdb:d.big<2^39:=by
  have:=yK ht (show c.big<2^26 by omega)
  unfold Ca.conv at hp
  split at hp
  ·split at hp
   ·split at hp
    ·cases hp; exact this
    ·cases hp; decide
   ·cases hp; decide
  ·cases hp; decide
 have hes:(a.expr x).1.size<2^60:=by
  obtain⟨c1,c2⟩:=Jq ht (show x.size<2^20 by omega) (show x.zq<2^30 by omega)
  unfold Ca.expr
  split
  ·split
   ·split
    ·simp only; omega
    ·show(1:Nat)<_; decide
   ·show(1:Nat)<_; decide
  ·show(1:Nat)<_; decide
 simp only [hp]
 have hnest:(decide (e=0)&&on a c.x&&vr a)=true→∃ p q,d.x.sub=[p,q]:=by
  intro h
  simp only [Bool.and_eq_true,decide_eq_true_eq] at h
  obtain⟨⟨rfl,h1⟩,h2⟩:=h
  obtain⟨p,q,hpq⟩:=Xm (a:=a) (x:=c.x) (by rw [h1,h2]; rfl)
  refine⟨p,q,?_⟩
  unfold Ca.conv at hp
  by_cases q1:a.ok=true
  ·rw [if_pos q1] at hp
   by_cases q2:c.errC=0
   ·rw [if_pos q2] at hp
    by_cases q3:(Ca.whole a.chg c).errC=0
    ·rw [if_pos q3] at hp
     have hd:Ca.whole a.chg c=d:=congrArg Prod.fst hp
     rw [← hd,← Ca.Zh a c (zaa q2),Ca.kG]
     exact hpq
    ·rw [if_neg q3] at hp
     exact absurd (congrArg Prod.snd hp) q3
   ·rw [if_neg q2] at hp
    exact absurd (congrArg Prod.snd hp) q2
  ·rw [if_neg q1] at hp
   exact absurd (congrArg Prod.snd hp) (show ¬ (8:Int)=0 by decide)
 have htriv:(decide (e=0)&&on a c.x&&vw a)=true→d.x.sub.length=0:=by
  intro h
  simp only [Bool.and_eq_true,decide_eq_true_eq] at h
  obtain⟨⟨rfl,h1⟩,h2⟩:=h
  unfold vw at h2
  simp only [Bool.and_eq_true,decide_eq_true_eq] at h2
  have hd:=zlx hp
  rw [hd,Ca.kG]
  show(a.chg c.x).sub.length=0
  have h1:a.onX c.x.kind c.x.name c.x.date=true:=h1
  rw [Ca.zhh,if_pos h1]
  unfold Ca.rel
  rw [if_pos h2.2,if_pos h2.1]
  rfl
 have hdd:d.days.length<2^40∧d.sub.length<2^40∧d.x.sub.length<2^40:=by
  have:=hdb
  rw [Con.ju] at this
  have h1:=Con.qQ d.sub
  have h2:=Ex.zy d.x.sub
  have h3:=Ex.size_eq d.x
  omega
 obtain⟨d1,d2,d3⟩:=hdd
 have hcb:c.big<2^39:=by omega
 have all16:∀ (r3:Int) (r4:Bool),r3=(if a.ok=true then 0 else 8)→r4=a.ok→(decide (r3=0) == r4)=true:=by
  rintro _ _ rfl rfl
  cases a.ok<;>rfl
 refine⟨fun z=> ?_,fun z=>⟨fun z'=> ?_,fun z'=> ?_⟩⟩
 all_goals refine⟨(a,c),⟨⟨ha,zQ c,trivial⟩,ht,by simp only; omega,by simp only; omega⟩,⟨(),trivial⟩,fun _ _=> ?_⟩
 all_goals simp only [hp]
 all_goals
  refine⟨((a.expr x).1,(a.expr x).1),⟨⟨xf _,xf _,trivial⟩,hes⟩,⟨true,by simp⟩,fun r1 hr1=> ?_⟩
  obtain rfl:r1=true:=hr1.2 rfl
 all_goals simp only [decide_true,cond_true]
 ·refine⟨(d,d),fun _=>⟨⟨xj ⟨rfl,rfl,Ex.zA _⟩ ⟨rfl,rfl,zP _ _ _⟩ ⟨rfl,rfl,zP _ _ _⟩,kK d,trivial⟩,by simp only; omega⟩,⟨true,by simp⟩,fun r2 hr2=> ?_⟩
  obtain rfl:r2=true:=(hr2 trivial).2 rfl
  refine⟨a,fun _=>⟨⟨ha,trivial⟩,qF ht⟩,⟨_,fun _=>rfl⟩,fun r3 hr3=>⟨a,fun _=>⟨⟨ha,trivial⟩,qF ht⟩,⟨_,fun _=>rfl⟩,fun r4 hr4=> ?_⟩⟩
  have e16:=all16 r3 r4 (hr3 (by simp)) (hr4 (by simp))
  refine zi8 c d Ex.nil Ex.nil 0 0 0 d.x.deep d.days.length d.sub.length (Con.dayG d.days) (Con.conG d.sub) hcb (by decide) d1 d2 hq _ _ ⟨?_,?_,by kernel_rfl,Nat.zero_le _⟩
  ·simp [SCt1,e16]
  ·exact⟨trivial,trivial,zU _,zU _,trivial,trivial,trivial,zU _,zU _,⟨⟨rfl,rfl⟩,rfl,rfl,rfl,⟨rfl,rfl⟩,rfl,rfl,⟨rfl,rfl⟩,⟨htriv z,rfl,za _ _ _⟩,⟨rfl,rfl⟩,⟨rfl,rfl,rfl,rfl⟩,⟨rfl,rfl,rfl,rfl⟩,trivial⟩,trivial,trivial⟩
 ·obtain⟨p,q,hpq⟩:=hnest z'
  refine⟨(d,d),fun _=>⟨⟨xj ⟨by rw [hpq]; rfl,rfl,by rw [hpq]; exact Ex.zaj p q⟩ ⟨rfl,rfl,zP _ _ _⟩ ⟨rfl,rfl,zP _ _ _⟩,kK d,trivial⟩,by simp only; omega⟩,⟨true,by simp⟩,fun r2 hr2=> ?_⟩
  obtain rfl:r2=true:=(hr2 trivial).2 rfl
  refine⟨a,fun _=>⟨⟨ha,trivial⟩,qF ht⟩,⟨_,fun _=>rfl⟩,fun r3 hr3=>⟨a,fun _=>⟨⟨ha,trivial⟩,qF ht⟩,⟨_,fun _=>rfl⟩,fun r4 hr4=> ?_⟩⟩
  have e16:=all16 r3 r4 (hr3 (by simp)) (hr4 (by simp))
  refine zja c d p q p.kind q.kind 0 d.x.deep d.days.length d.sub.length (Con.dayG d.days) (Con.conG d.sub) hcb (by decide) d1 d2 hq _ _ ⟨?_,?_,by kernel_rfl,Nat.zero_le _⟩
  ·simp [SCt1,e16]
  ·rw [hpq]
   exact⟨trivial,trivial,zU _,zU _,trivial,trivial,zU _,zU _,zU _,zU _,trivial,trivial⟩
 ·refine⟨(d,d),fun _=>⟨⟨xj ⟨rfl,rfl,zP _ _ _⟩ ⟨rfl,rfl,zP _ _ _⟩ ⟨rfl,rfl,zP _ _ _⟩,kK d,trivial⟩,by simp only; omega⟩,⟨true,by simp⟩,fun r2 hr2=> ?_⟩
  obtain rfl:r2=true:=(hr2 trivial).2 rfl
  refine⟨a,fun _=>⟨⟨ha,trivial⟩,qF ht⟩,⟨_,fun _=>rfl⟩,fun r3 hr3=>⟨a,fun _=>⟨⟨ha,trivial⟩,qF ht⟩,⟨_,fun _=>rfl⟩,fun r4 hr4=> ?_⟩⟩
  have e16:=all16 r3 r4 (hr3 (by simp)) (hr4 (by simp))
  refine zj0 c d Ex.nil Ex.nil 0 0 d.x.sub.length (Ex.exG d.x.sub) d.days.length d.sub.length (Con.dayG d.days) (Con.conG d.sub) hcb d3 d1 d2 hq _ _ ⟨?_,?_,by kernel_rfl,Nat.zero_le _⟩
  ·simp [SCt1,e16]
  ·exact⟨trivial,trivial,zU _,zU _,trivial,trivial,zU _,zU _,zU _,zU _,trivial,trivial⟩
end Go.Proofs.Tryz
end
section
namespace Go.Sx
variable [Stat]
open Go.RowKit (Below)
def E0:Nat→Prop:=Own (fun _=>False) []
theorem Vq(b:Nat):¬ E0 b:=by
 rintro(h | ⟨e,he,_⟩)
 ·exact h
 ·simp at he
def Tw(P:Program)(W:World)(t:TypeId)(cs:List Value):Prop:=∃ (H:Type) (enc:TypeId×Value→H) (base fuel:Nat) (d:DataW H) (ps:List MemPlace),DataW.trod enc P W base (fun _=>true) true fuel t cs=some (d,ps)∧∀ n∈d.weights P t,n≤reachBytes
section
variable {P:Program} {W:World} {t e:TypeId} {cs:List Value}
theorem kT(ht:P.underlying t=some .string)(h:Tw P W t cs):∃ s:List UInt8,cs=[.string ⟨s.toArray⟩]∧s.length≤reachBytes:=by
 obtain⟨H,enc,base,fuel,d,ps,h,hw⟩:=h
 obtain⟨s,rfl,hx,_⟩:=DataW.trod_string ht h
 cases hx
 exact⟨s.data.toList,by simp,hw _ (by simp [DataW.weights])⟩
theorem Z4{k:IntKind}(ht:P.underlying t=some (.int k))(h:Tw P W t cs):∃ n,cs=[.int k n]∧(Lit.int k n).wf=true:=by
 obtain⟨H,enc,base,fuel,d,ps,h,hw⟩:=h
 obtain⟨n,rfl,hx,hwf⟩:=DataW.trod_int ht h
 exact⟨n,rfl,hwf⟩
theorem zc8{fs:Array Field}(ht:P.underlying t=some (.struct fs))(h:Tw P W t cs):cs.length=P.cellsOf t∧∀ (i:Nat) (f:Field),fs[i]?=some f→Tw P W f.type ((cs.drop f.offset).take (P.cellsOf f.type)):=by
 obtain⟨H,enc,base,fuel,d,ps,h,hw⟩:=h
 obtain⟨xs,n,_,hx,hl,hlen,hf⟩:=DataW.trod_struct ht h
 cases hx
 refine⟨hl,fun i f hfi=> ?_⟩
 have hi:=hf i f hfi
 have hlt:i<xs.length:=by
  rw [hlen]; exact(Array.getElem?_eq_some_iff.1 hfi).1
 rw [List.getElem?_eq_getElem hlt] at hi
 refine⟨H,enc,base,n,xs[i].1,xs[i].2,hi,fun m hm=>hw m ?_⟩
 simp only [DataW.weights,ht]
 exact DataW.weights_mem_each (j:=i) (t:=f.type) (d:=xs[i].1) (by simp [hfi]) (by simp [hlt]) m hm
theorem kb{H:Type}{d:DataW H} : ∀ {l:List (DataW H)},d∈l→∀ n∈d.weights P e,n∈DataW.weightsAll P e l
 | x::l,hd,n,hn=>by
  simp only [DataW.weightsAll,List.mem_append]
  rcases List.mem_cons.1 hd with rfl | hd
  ·exact .inl hn
  ·exact .inr (kb hd n hn)
theorem zgl(ht:P.underlying t=some (.slice e))(h:Tw P W t cs):cs=[.slice none 0 0]∨∃ (a:Addr) (len cap:Nat),cs=[.slice (some a) len cap]∧len≤cap∧cap*P.bytesOf e≤reachBytes ∧
  ∀ i,i<len→∃ cs',cs'.length=P.cellsOf e∧(∀ o,o<P.cellsOf e→W.cell? ((a.add (i*P.cellsOf e)).add o)=cs'[o]?)∧Tw P W e cs':=by
 obtain⟨H,enc,base,fuel,d,ps,h,hw⟩:=h
 rcases DataW.trod_slice ht h with ⟨rfl,_⟩ | ⟨a,len,cap,elems,rest,n,_,rfl,hx,hb,hl,hm,hlen,hel,hsp,_⟩
 ·exact .inl rfl
 ·right
  cases hx
  obtain⟨hrl,_⟩:=hsp rfl
  simp only [DataW.weights,ht] at hw
  refine⟨a,len,cap,rfl,hl,?_,fun i hi=> ?_⟩
  ·have:=hw _ (List.mem_cons_self)
   simp only [List.length_map,hlen,hrl] at this
   rwa [show len+(cap - len)=cap by omega] at this
  ·have h1:=hel i hi
   have hlt:i<elems.length:=by rw [hlen]; exact hi
   rw [List.getElem?_eq_getElem hlt,Option.bind_eq_some_iff] at h1
   obtain⟨cs',h2,h3⟩:=h1
   obtain⟨_,h4,h5⟩:=World.cells?_some h2
   refine⟨cs',h4,h5,H,enc,base,n,elems[i].1,elems[i].2,h3,fun m hm2=>hw m ?_⟩
   simp only [List.mem_cons,List.mem_append]
   exact .inr (.inl (kb (d:=elems[i].1) (List.mem_map.2 ⟨elems[i],List.getElem_mem hlt,rfl⟩) m hm2))
theorem zbb{α:Type}(z:α)(cell:α→Nat→AV)(good:α→Prop){sz:Nat}(ht:P.underlying t=some (.slice e))(hsz:P.cellsOf e=sz)(hpos:0<sz)
  (hel:∀ cs',Tw P W e cs'→∃ x:α,good x∧∀ o,o<sz→∃ c,cs'[o]?=some c∧c.oneCell'=true∧Rep E0 W (cell x o) [] c) (h:Tw P W t cs) :
  ∃ (l:List α) (v:Value),cs=[v]∧(∀ x∈l,good x)∧l.length*P.bytesOf e≤reachBytes∧v.oneCell'=true∧Rep E0 W (.sl l.length sz fun j=>cell (l.getD j z)) [] v:=by
 rcases zgl ht h with rfl | ⟨a,len,cap,rfl,hl,hw,hx⟩
 ·refine⟨[],_,rfl,by simp,by simp,rfl,?_⟩
  simp only [Rep]
  exact⟨none,0,rfl,Nat.le_refl _,.inl rfl⟩
 ·rw [hsz] at hx
  have hx2:∀ i,∃ x:α,i<len→good x∧∀ o,o<sz→∃ c,W.cell? ((a.add (i*sz)).add o)=some c∧c.oneCell'=true∧Rep E0 W (cell x o) [] c:=fun i=>by
   by_cases hi:i<len
   ·obtain⟨cs',h1,h2,h3⟩:=hx i hi
    obtain⟨x,hg,hc⟩:=hel cs' h3
    exact⟨x,fun _=>⟨hg,fun o ho=>by
     obtain⟨c,g1,g2,g3⟩:=hc o ho
     exact⟨c,by rw [h2 o ho,g1],g2,g3⟩⟩⟩
   ·exact⟨z,fun h=>absurd h hi⟩
  obtain⟨f,hf⟩:=Classical.axiomOfChoice hx2
  have hgd:∀ j,j<len→((List.range len).map f).getD j z=f j:=fun j hj=>by simp [List.getD,hj]
  refine⟨(List.range len).map f,_,rfl,fun x hxm=> ?_,?_,rfl,?_⟩
  ·obtain⟨i,hi,rfl⟩:=List.mem_map.1 hxm
   exact(hf i (List.mem_range.1 hi)).1
  ·simp only [List.length_map,List.length_range]
   exact Nat.le_trans (Nat.mul_le_mul_right _ hl) hw
  ·simp only [Rep,List.length_map,List.length_range]
   refine⟨some a,cap,rfl,hl,?_⟩
   rcases Nat.eq_zero_or_pos len with h0 | h0
   ·exact .inl h0
   ·right
    have hspot:a.spot=none:=by
     obtain⟨c,g1,_⟩:=(hf 0 h0).2 0 hpos
     have:=World.cell?_spot g1
     simpa [Addr.add] using this
    refine⟨a,rfl,hspot,fun j o hj ho=>⟨Vq _,?_⟩⟩
    obtain⟨c,g1,g2,g3⟩:=(hf j hj).2 o ho
    refine⟨c,?_,g2,by rw [hgd j hj]; exact g3⟩
    rw [← g1]
    obtain⟨b,off,spot⟩:=a
    simp only at hspot
    subst hspot
    congr 1
    simp only [Addr.add]
    split<;>split<;>simp_all<;>omega
theorem zd5{g:Nat}{fn:Func}{c:Code}(hf:P.funcs[g]?=some fn)(hb:fn.body=some c) (hn:(fn.name == "runtime.NumGoroutine")=false) {ctr:Ctr} (hok:zc P g ctr) {args:List AV} {vals:List Value}
  (hspec:(ctr.spec args []).holds fun r=>r=(.bool true,[])) (hr:RepL E0 W args [] vals) (hst:kg E0 W):Calls P g vals.toArray W fun e W'=>e = .returned (.bool true)∧Below W.heap.size W W':=by
 have hn':¬ fn.name = "runtime.NumGoroutine" :=by simpa using hn
 have hg:Good (fun _=>False) W []:=⟨fun b h=>h.elim,fun i e ad he=>by simp at he,hst⟩
 have hh:HRep (Own (fun _=>False) []) W [] []:=⟨rfl,fun i j e f a b he=>by simp at he,fun i e a he=>by simp at he,fun i e b he=>by simp at he⟩
 rcases hok args [] _ hspec (fun _=>rfl) (fun _=>False) W [] vals hg hh hr with ⟨_,h⟩ | ⟨v,w',h,_⟩
 ·refine h.mono ?_
  rintro e W' ⟨v,rfl,r,hs,σ',hq,h1,_,_,_,_,hx⟩
  cases hq
  simp only [Rep] at h1
  subst h1
  exact⟨rfl,hx.os,hx.tape,hx.output,hx.size,fun k hk=>hx.keep k hk fun⟨e,he,_⟩=>by simp at he⟩
 ·simp [callFunc,hf,hn',hb] at h
end
end Go.Sx
end
section
namespace Go.Sx
variable [Stat]
def TwN(P:Program)(W:World)(fuel:Nat)(t:TypeId)(cs:List Value):Prop:=∃ (H:Type) (enc:TypeId×Value→H) (base:Nat) (d:DataW H) (ps:List MemPlace),DataW.trod enc P W base (fun _=>true) true fuel t cs=some (d,ps)∧∀ n∈d.weights P t,n≤reachBytes
section
variable {P:Program} {W:World} {t e:TypeId} {cs:List Value}
theorem TwN.tw{fuel:Nat}(h:TwN P W fuel t cs):Tw P W t cs:=by
 obtain⟨H,enc,base,d,ps,h,hw⟩:=h
 exact⟨H,enc,base,fuel,d,ps,h,hw⟩
theorem Tw.twn(h:Tw P W t cs):∃ fuel,TwN P W fuel t cs:=by
 obtain⟨H,enc,base,fuel,d,ps,h,hw⟩:=h
 exact⟨fuel,H,enc,base,d,ps,h,hw⟩
theorem Q3{fuel:Nat}{fs:Array Field}(ht:P.underlying t=some (.struct fs))(h:TwN P W fuel t cs):cs.length=P.cellsOf t∧∃ n,n<fuel∧∀ (i:Nat) (f:Field),fs[i]?=some f→TwN P W n f.type ((cs.drop f.offset).take (P.cellsOf f.type)):=by
 obtain⟨H,enc,base,d,ps,h,hw⟩:=h
 obtain⟨xs,n,hn,hx,hl,hlen,hf⟩:=DataW.trod_struct ht h
 cases hx
 refine⟨hl,n,by omega,fun i f hfi=> ?_⟩
 have hi:=hf i f hfi
 have hlt:i<xs.length:=by
  rw [hlen]; exact(Array.getElem?_eq_some_iff.1 hfi).1
 rw [List.getElem?_eq_getElem hlt] at hi
 refine⟨H,enc,base,xs[i].1,xs[i].2,hi,fun m hm=>hw m ?_⟩
 simp only [DataW.weights,ht]
 exact DataW.weights_mem_each (j:=i) (t:=f.type) (d:=xs[i].1) (by simp [hfi]) (by simp [hlt]) m hm
theorem zby{fuel:Nat}(ht:P.underlying t=some (.slice e))(h:TwN P W fuel t cs):cs=[.slice none 0 0]∨∃ (a:Addr) (len cap n:Nat),n<fuel∧cs=[.slice (some a) len cap]∧len≤cap∧cap*P.bytesOf e≤reachBytes ∧
  ∀ i,i<len→∃ cs',cs'.length=P.cellsOf e∧(∀ o,o<P.cellsOf e→W.cell? ((a.add (i*P.cellsOf e)).add o)=cs'[o]?)∧TwN P W n e cs':=by
 obtain⟨H,enc,base,d,ps,h,hw⟩:=h
 rcases DataW.trod_slice ht h with ⟨rfl,_⟩ | ⟨a,len,cap,elems,rest,n,hn,rfl,hx,hb,hl,hm,hlen,hel,hsp,_⟩
 ·exact .inl rfl
 ·right
  cases hx
  obtain⟨hrl,_⟩:=hsp rfl
  simp only [DataW.weights,ht] at hw
  refine⟨a,len,cap,n,by omega,rfl,hl,?_,fun i hi=> ?_⟩
  ·have:=hw _ (List.mem_cons_self)
   simp only [List.length_map,hlen,hrl] at this
   rwa [show len+(cap - len)=cap by omega] at this
  ·have h1:=hel i hi
   have hlt:i<elems.length:=by rw [hlen]; exact hi
   rw [List.getElem?_eq_getElem hlt,Option.bind_eq_some_iff] at h1
   obtain⟨cs',h2,h3⟩:=h1
   obtain⟨_,h4,h5⟩:=World.cells?_some h2
   refine⟨cs',h4,h5,H,enc,base,elems[i].1,elems[i].2,h3,fun m hm2=>hw m ?_⟩
   simp only [List.mem_cons,List.mem_append]
   exact .inr (.inl (kb (d:=elems[i].1) (List.mem_map.2 ⟨elems[i],List.getElem_mem hlt,rfl⟩) m hm2))
theorem Q9{α:Type}(z:α)(cell:α→Nat→AV)(good:α→Prop){sz fuel:Nat}(ht:P.underlying t=some (.slice e))(hsz:P.cellsOf e=sz)(hpos:0<sz)
  (hel:∀ n cs',n<fuel→TwN P W n e cs'→∃ x:α,good x∧∀ o,o<sz→∃ c,cs'[o]?=some c∧c.oneCell'=true∧Rep E0 W (cell x o) [] c) (h:TwN P W fuel t cs) :
  ∃ (l:List α) (v:Value),cs=[v]∧(∀ x∈l,good x)∧l.length*P.bytesOf e≤reachBytes∧v.oneCell'=true∧Rep E0 W (.sl l.length sz fun j=>cell (l.getD j z)) [] v:=by
 rcases zby ht h with rfl | ⟨a,len,cap,n,hn,rfl,hl,hw,hx⟩
 ·refine⟨[],_,rfl,by simp,by simp,rfl,?_⟩
  simp only [Rep]
  exact⟨none,0,rfl,Nat.le_refl _,.inl rfl⟩
 ·rw [hsz] at hx
  have hx2:∀ i,∃ x:α,i<len→good x∧∀ o,o<sz→∃ c,W.cell? ((a.add (i*sz)).add o)=some c∧c.oneCell'=true∧Rep E0 W (cell x o) [] c:=fun i=>by
   by_cases hi:i<len
   ·obtain⟨cs',h1,h2,h3⟩:=hx i hi
    obtain⟨x,hg,hc⟩:=hel n cs' hn h3
    exact⟨x,fun _=>⟨hg,fun o ho=>by
     obtain⟨c,g1,g2,g3⟩:=hc o ho
     exact⟨c,by rw [h2 o ho,g1],g2,g3⟩⟩⟩
   ·exact⟨z,fun h=>absurd h hi⟩
  obtain⟨f,hf⟩:=Classical.axiomOfChoice hx2
  have hgd:∀ j,j<len→((List.range len).map f).getD j z=f j:=fun j hj=>by simp [List.getD,hj]
  refine⟨(List.range len).map f,_,rfl,fun x hxm=> ?_,?_,rfl,?_⟩
  ·obtain⟨i,hi,rfl⟩:=List.mem_map.1 hxm
   exact(hf i (List.mem_range.1 hi)).1
  ·simp only [List.length_map,List.length_range]
   exact Nat.le_trans (Nat.mul_le_mul_right _ hl) hw
  ·simp only [Rep,List.length_map,List.length_range]
   refine⟨some a,cap,rfl,hl,?_⟩
   rcases Nat.eq_zero_or_pos len with h0 | h0
   ·exact .inl h0
   ·right
    have hspot:a.spot=none:=by
     obtain⟨c,g1,_⟩:=(hf 0 h0).2 0 hpos
     have:=World.cell?_spot g1
     simpa [Addr.add] using this
    refine⟨a,rfl,hspot,fun j o hj ho=>⟨Vq _,?_⟩⟩
    obtain⟨c,g1,g2,g3⟩:=(hf j hj).2 o ho
    refine⟨c,?_,g2,by rw [hgd j hj]; exact g3⟩
    rw [← g1]
    obtain⟨b,off,spot⟩:=a
    simp only at hspot
    subst hspot
    congr 1
    simp only [Addr.add]
    split<;>split<;>simp_all<;>omega
theorem zef{H:Type}{enc:TypeId×Value→H}{base:Nat}{sp:Nat→Bool}{held:Bool}{fuel:Nat}{kd:IntKind}{ps:List Int}{q:List MemPlace}(ht:P.underlying t=some (.slice e))(he:P.underlying e=some (.int kd))(hc:P.cellsOf e=1)(hne:ps≠[])
  (h:DataW.trod enc P W base sp held fuel t cs=some (.slice (ps.map fun z=>.lit (.int kd z)) [],q)):∃ c,cs=[c]∧c.oneCell'=true∧Rep E0 W (.sl ps.length 1 fun j _=>.int kd (ps.getD j 0)) [] c:=by
 obtain⟨a,cap,rfl,hl,hel⟩:=open_row ht hc h
 refine⟨_,rfl,rfl,?_⟩
 simp only [List.length_map] at hl
 have hv:∀ j,j<ps.length→W.cell? (a.add j)=some (.int kd (ps.getD j 0)):=fun j hj=>by
  obtain⟨v,n,q',h1,h2⟩:=hel j (.lit (.int kd (ps.getD j 0))) (by simp [List.getD,hj])
  obtain⟨m,h3,h4,_⟩:=DataW.trod_int he h2
  simp only [List.cons.injEq,and_true] at h3
  simp only [Prod.mk.injEq,DataW.lit.injEq,Lit.int.injEq,true_and] at h4
  rw [h1,h3,h4.1]
 simp only [Rep,List.length_map]
 refine⟨some a,cap,rfl,hl,.inr ⟨a,rfl,?_,fun j o hj ho=>⟨Vq _,.int kd (ps.getD j 0),?_,rfl,rfl⟩⟩⟩
 ·have:=World.cell?_spot (hv 0 (List.length_pos_iff.2 hne))
  simpa [Addr.add] using this
 ·have:o=0:=by omega
  subst this
  have hs:a.spot=none:=by
   have:=World.cell?_spot (hv 0 (List.length_pos_iff.2 hne))
   simpa [Addr.add] using this
  rw [← hv j hj]
  obtain⟨b,off,spot⟩:=a
  simp only at hs
  subst hs
  congr 1
  simp only [Addr.add]
  split<;>simp_all
end
section
open Go.WideElems Go.ChangeMaps
variable {H:Type} {enc:TypeId×Value→H} {P:Program} {W:World} {base:Nat} {sp:Nat→Bool} {held:Bool}
theorem QI{x:Lit×DataW H} : ∀ {l:List (Lit×DataW H)},x∈l.foldr DataW.insert []↔x∈l
 | []=>Iff.rfl
 | y::l=>by rw [List.foldr_cons,mem_insert_iff,QI,List.mem_cons]
theorem zae{g:Nat}{t k e:TypeId}{kd:IntKind}{ag:Bool}{sz:Nat}{ks:List Int}{has:Int→Bool}{get:Int→Nat→AV}{fuel:Nat}{c:Value}{es0:List (Lit×DataW H)}{q:List MemPlace}
  (hg:(Stat.z g).isSome=true) (ht:P.underlying t=some (.map k e)) (hk:P.underlying k=some (.int kd)) (hc:W.cell? ⟨g,0,none⟩=some c) (hne:es0≠[])
  (h:DataW.trod enc P W base sp held fuel t [c]=some (.map es0,q))
  (hin:∀ (n:Int) (d:DataW H),(.int kd n,d)∈es0→has n=true∧∀ (v:Value) (m:Nat) (q:List MemPlace),v.formed P e=true→DataW.trod enc P W base sp held m e v.cells.toList=some (d,q) →
   match ag with
   | true=>∃ vs:List Value,v = .agg vs.toArray∧vs.length=sz∧∀ o,o<sz→∃ c,vs[o]?=some c∧Rep E0 W (get n o) [] c
   | false=>Rep E0 W (get n 0) [] v)
  (hout:∀ n,has n=true→∃ d,(.int kd n,d)∈es0):Rep E0 W (.mp kd ag sz ks has get) [] c∧∀ b,c = .map (some b)→b<W.heap.size:=by
 rcases open_map ht h with ⟨_,hx⟩ | ⟨b,es,clock,n,_,hcs,hb,_,F,hx⟩
 ·simp at hx
 ·simp only [List.cons.injEq,and_true] at hcs
  subst hcs
  simp only [Prod.mk.injEq,DataW.map.injEq] at hx
  have hkey:∀ x∈es.toList,∃ (m:Int) (z:DataW H×List MemPlace),x.key = .int kd m∧elemAt enc P W base sp held n e x.val=some z∧(.int kd m,z.1)∈es0:=by
   intro x hxm
   obtain⟨y,hy⟩:=F.reads x hxm
   have h1:=rd_key hy
   obtain⟨z,h2,h3⟩:=rd_val hy
   have h4:y∈es0:=by rw [hx.1,QI]; exact List.mem_map.2 ⟨x,hxm,rg_of hy⟩
   have h5:mapKey P k x.key=some y.1:=by
    simp only [keyOf,hk] at h1
    exact h1
   unfold mapKey at h5
   rw [hk] at h5
   cases hxk:x.key with
   | int k' m=>
    rw [hxk] at h5
    simp only at h5
    split at h5
    ·rename_i hc2
     have h6:=Option.some.inj h5
     obtain⟨rfl,_⟩:=hc2
     refine⟨m,z,rfl,h2,?_⟩
     rw [h6,← h3]; exact h4
    ·cases h5
   | _=>rw [hxk] at h5; simp at h5
  have hlt:b<W.heap.size:=(Array.getElem?_eq_some_iff.1 hb).1
  refine⟨?_,fun b' hb'=>by cases hb'; exact hlt⟩
  simp only [Rep]
  refine⟨b,es,clock,rfl,Vq _,⟨g,Vq _,hg,hc⟩,hb,fun m=> ?_⟩
  have hspec:=MapKept.findNow_spec (d:=.int kd) (k:=.int kd m) (by simp [MapKept.IsKey]) es.toList 0 (fun x hxm=>by
   obtain⟨m',z,h1,_⟩:=hkey x hxm
   rw [h1]; simp [MapKept.IsKey])
  rcases hspec with ⟨h1,h2⟩ | ⟨j,x,h1,h2,h3⟩
  ·refine⟨fun _=>h1,fun hm=> ?_⟩
   obtain⟨d,hd⟩:=hout m hm
   rw [hx.1,QI] at hd
   obtain⟨x,hxm,hrx⟩:=List.mem_map.1 hd
   obtain⟨y,hy⟩:=F.reads x hxm
   rw [rg_of hy] at hrx
   have h5:=rd_key hy
   rw [hrx] at h5
   obtain⟨m',z,g1,_⟩:=hkey x hxm
   have:keyOf P k x.key=some (.int kd m'):=by
    rw [g1] at h5 ⊢
    simp only [keyOf,hk,mapKey] at h5 ⊢
    split at h5
    ·rename_i hwf; rw [if_pos hwf]
    ·cases h5
   rw [this] at h5
   cases h5
   exact absurd g1 (h2 x hxm)
  ·have hxm:x∈es.toList:=List.mem_of_getElem? h2
   obtain⟨m',z,g1,g2,g3⟩:=hkey x hxm
   rw [h3] at g1
   cases g1
   obtain⟨hh,hrep⟩:=hin m z.1 g3
   refine⟨fun hf=>(by rw [hf] at hh; cases hh),fun _=>⟨_,x.val,h1,?_⟩⟩
   unfold elemAt at g2
   split at g2
   ·rename_i hfm
    exact hrep x.val n z.2 hfm g2
   ·cases g2
end
end Go.Sx
end
section
set_option maxRecDepth 100000
namespace Go.Proofs.YtlkbiennfpeoiaaGreatDoor
open Go Go.Sx Go.Nov Go.Proofs.Tryz Go.ChangeShapes Go.WideShapes Go.ChangeAt Go.RowKit
theorem vK:Tryz.prog.cellsOf 9=1:=by kernel_rfl
theorem Zp:Tryz.prog.cellsOf 22=1:=by kernel_rfl
theorem yr:Tryz.prog.cellsOf 3=1:=by kernel_rfl
theorem XQ:Tryz.prog.cellsOf 5=1:=by kernel_rfl
theorem zde:Tryz.prog.cellsOf 25=1:=by kernel_rfl
theorem Jd:Tryz.prog.cellsOf 27=5:=by kernel_rfl
theorem KL:∀ {l:List Ex},(∀ x∈l,x.thin)→Ex.wg l
 | [],_=>by rw [Ex.wg]; trivial
 | x::l,h=>by rw [Ex.wg]; exact⟨h x (by simp),KL fun y hy=>h y (by simp [hy])⟩
theorem KS{W:World} : ∀ (fuel:Nat) {cs:List Value},TwN Tryz.prog W fuel 27 cs →
  ∃ (x:Ex) (v:Value),x.thin∧cs=[.int .u8 x.kind,.string ⟨x.rat.toArray⟩,.string ⟨x.name.toArray⟩,.int .i64 x.date,v]∧v.oneCell'=true∧Rep E0 W (.sl x.sub.length 5 x.deep) [] v:=by
 intro fuel
 induction fuel using Nat.strongRecOn with
 | ind fuel ih=>
  intro cs h
  obtain⟨hl,n,hn,hf⟩:=Q3 Tryz.underlying27 h
  rw [Jd] at hl
  match cs,hl with
  | [a,b,c,d,e],_=>
   have h0:TwN Tryz.prog W n 5 (([a,b,c,d,e].drop 0).take (Tryz.prog.cellsOf 5)):=hf 0 _ rfl
   rw [XQ] at h0
   replace h0:TwN Tryz.prog W n 5 [a]:=h0
   have h1:TwN Tryz.prog W n 22 (([a,b,c,d,e].drop 1).take (Tryz.prog.cellsOf 22)):=hf 1 _ rfl
   rw [Zp] at h1
   replace h1:TwN Tryz.prog W n 22 [b]:=h1
   have h2:TwN Tryz.prog W n 9 (([a,b,c,d,e].drop 2).take (Tryz.prog.cellsOf 9)):=hf 2 _ rfl
   rw [vK] at h2
   replace h2:TwN Tryz.prog W n 9 [c]:=h2
   have h3:TwN Tryz.prog W n 3 (([a,b,c,d,e].drop 3).take (Tryz.prog.cellsOf 3)):=hf 3 _ rfl
   rw [yr] at h3
   replace h3:TwN Tryz.prog W n 3 [d]:=h3
   have h4:TwN Tryz.prog W n 25 (([a,b,c,d,e].drop 4).take (Tryz.prog.cellsOf 25)):=hf 4 _ rfl
   rw [zde] at h4
   replace h4:TwN Tryz.prog W n 25 [e]:=h4
   obtain⟨k,e0,_⟩:=Z4 Tryz.underlying5 h0.tw
   obtain⟨r,e1,w1⟩:=kT Tryz.underlying22 h1.tw
   obtain⟨m,e2,w2⟩:=kT Tryz.underlying9 h2.tw
   obtain⟨z,e3,_⟩:=Z4 Tryz.underlying3 h3.tw
   obtain⟨l,v,e4,gl,_,hone,hr⟩:=Q9 Ex.nil (fun x=>Ex.cell x.kind x.rat x.name x.date x.sub.length x.deep) Ex.thin Tryz.underlying25 Jd (by decide) (fun n' cs' hn' h'=>by
    obtain⟨x,v,hx,rfl,hv,hr⟩:=ih n' (by omega) h'
    refine⟨x,hx,fun o ho=> ?_⟩
    match o,ho with
    | 0,_=>exact⟨_,rfl,rfl,by simp [Ex.cell,Rep]⟩
    | 1,_=>exact⟨_,rfl,rfl,by simp [Ex.cell,Rep]⟩
    | 2,_=>exact⟨_,rfl,rfl,by simp [Ex.cell,Rep]⟩
    | 3,_=>exact⟨_,rfl,rfl,by simp [Ex.cell,Rep]⟩
    | 4,_=>exact⟨v,rfl,hv,hr⟩) h4
   cases e0; cases e1; cases e2; cases e3; cases e4
   have hb:reachBytes≤2^48:=by decide
   refine⟨.mk k r m z l,_,?_,rfl,hone,?_⟩
   ·rw [Ex.thin]; exact⟨Nat.le_trans w1 hb,Nat.le_trans w2 hb,KL gl⟩
   ·have hq:=Ex.zA (.mk k r m z l)
    simp only [Ex.sub] at hq ⊢
    simp only [Rep] at hr ⊢
    obtain⟨a,cap,hv,hle,hcase⟩:=hr
    refine⟨a,cap,hv,hle,hcase.imp id fun⟨ad,g1,g2,g3⟩=>⟨ad,g1,g2,fun j o hj ho=> ?_⟩⟩
    obtain⟨g4,c,g5,g6,g7⟩:=g3 j o hj ho
    refine⟨g4,c,g5,g6,?_⟩
    rw [hq j o hj ho]
    exact g7
theorem zme{W:World}{cs:List Value}(h:Tw Tryz.prog W 27 cs):∃ x:Ex,x.thin∧Rep E0 W x.exA [] (.agg cs.toArray):=by
 obtain⟨fuel,h⟩:=h.twn
 obtain⟨x,v,hx,rfl,_,hr⟩:=KS fuel h
 refine⟨x,hx,?_⟩
 have hq:=Ex.zA x
 have hr2:Rep E0 W (Ex.exS x.sub) [] v:=by
  simp only [Ex.exS,Rep] at hr ⊢
  obtain⟨a,cap,hv,hle,hcase⟩:=hr
  refine⟨a,cap,hv,hle,hcase.imp id fun⟨ad,g1,g2,g3⟩=>⟨ad,g1,g2,fun j o hj ho=> ?_⟩⟩
  obtain⟨g4,c,g5,g6,g7⟩:=g3 j o hj ho
  exact⟨g4,c,g5,g6,by rw [← hq j o hj ho]; exact g7⟩
 simp only [Ex.exA,Rep,RepL]
 exact⟨_,rfl,_,_,rfl,rfl,_,_,rfl,rfl,_,_,rfl,rfl,_,_,rfl,rfl,_,_,rfl,hr2,rfl⟩
theorem zgc:Tryz.prog.cellsOf 24=5:=by kernel_rfl
theorem zm6{W:World}{cs:List Value}(h:Tw Tryz.prog W 24 cs):∃ x:Ca,True∧Rep E0 W x.av [] (.agg cs.toArray):=by
 obtain⟨hl,hf⟩:=zc8 Tryz.underlying24 h
 rw [zgc] at hl
 match cs,hl with
 | [a,b,c,d,e],_=>
  have h0:Tw Tryz.prog W 9 (([a,b,c,d,e].drop 0).take (Tryz.prog.cellsOf 9)):=hf 0 _ rfl
  rw [vK] at h0
  replace h0:Tw Tryz.prog W 9 [a]:=h0
  have h1:Tw Tryz.prog W 9 (([a,b,c,d,e].drop 1).take (Tryz.prog.cellsOf 9)):=hf 1 _ rfl
  rw [vK] at h1
  replace h1:Tw Tryz.prog W 9 [b]:=h1
  have h2:Tw Tryz.prog W 3 (([a,b,c,d,e].drop 2).take (Tryz.prog.cellsOf 3)):=hf 2 _ rfl
  rw [yr] at h2
  replace h2:Tw Tryz.prog W 3 [c]:=h2
  have h3:Tw Tryz.prog W 22 (([a,b,c,d,e].drop 3).take (Tryz.prog.cellsOf 22)):=hf 3 _ rfl
  rw [Zp] at h3
  replace h3:Tw Tryz.prog W 22 [d]:=h3
  have h4:Tw Tryz.prog W 22 (([a,b,c,d,e].drop 4).take (Tryz.prog.cellsOf 22)):=hf 4 _ rfl
  rw [Zp] at h4
  replace h4:Tw Tryz.prog W 22 [e]:=h4
  obtain⟨x0,y0,w0⟩:=kT Tryz.underlying9 h0
  obtain⟨x1,y1,w1⟩:=kT Tryz.underlying9 h1
  obtain⟨x2,y2,w2⟩:=Z4 Tryz.underlying3 h2
  obtain⟨x3,y3,w3⟩:=kT Tryz.underlying22 h3
  obtain⟨x4,y4,w4⟩:=kT Tryz.underlying22 h4
  cases y0; cases y1; cases y2; cases y3; cases y4
  refine⟨⟨x0,x1,x2,x3,x4⟩,trivial,?_⟩
  simp only [RepL,Rep,Ca.av]
  exact⟨_,rfl,_,_,rfl,rfl,_,_,rfl,rfl,_,_,rfl,rfl,_,_,rfl,rfl,_,_,rfl,rfl,rfl⟩
theorem zg3:Tryz.prog.cellsOf 28=1:=by kernel_rfl
theorem zfc:Tryz.prog.cellsOf 29=1:=by kernel_rfl
theorem Vg:Tryz.prog.cellsOf 31=12:=by kernel_rfl
theorem Vm:∀ {l:List Con},(∀ x∈l,x.thin)→Con.wg l
 | [],_=>by rw [Con.wg]; trivial
 | x::l,h=>by rw [Con.wg]; exact⟨h x (by simp),Vm fun y hy=>h y (by simp [hy])⟩
theorem Js{W:World}{n sz:Nat}{g g':Nat→Nat→AV}{v:Value}(hq:eqG n sz g g')(hr:Rep E0 W (.sl n sz g') [] v):Rep E0 W (.sl n sz g) [] v:=by
 simp only [Rep] at hr ⊢
 obtain⟨a,cap,hv,hle,hcase⟩:=hr
 refine⟨a,cap,hv,hle,hcase.imp id fun⟨ad,g1,g2,g3⟩=>⟨ad,g1,g2,fun j o hj ho=> ?_⟩⟩
 obtain⟨g4,c,g5,g6,g7⟩:=g3 j o hj ho
 exact⟨g4,c,g5,g6,by rw [hq j o hj ho]; exact g7⟩
theorem zcq{W:World} : ∀ (fuel:Nat) {cs:List Value},TwN Tryz.prog W fuel 31 cs →
  ∃ (x:Con) (u v w:Value),x.thin∧cs=[.int .u8 x.kind,.string ⟨x.src.toArray⟩,.string ⟨x.dst.toArray⟩,.string ⟨x.name.toArray⟩,.int .u8 x.x.kind,.string ⟨x.x.rat.toArray⟩,.string ⟨x.x.name.toArray⟩,.int .i64 x.x.date,u,.int .i64 x.date,v,w] ∧
   (u.oneCell'=true∧v.oneCell'=true∧w.oneCell'=true)∧Rep E0 W (.sl x.x.sub.length 5 (Ex.exG x.x.sub)) [] u∧Rep E0 W (.sl x.days.length 1 (Con.dayG x.days)) [] v∧Rep E0 W (.sl x.sub.length 12 x.deep) [] w:=by
 intro fuel
 induction fuel using Nat.strongRecOn with
 | ind fuel ih=>
  intro cs h
  obtain⟨hl,n,hn,hf⟩:=Q3 Tryz.underlying31 h
  rw [Vg] at hl
  match cs,hl with
  | [a,b,c,d,e0,e1,e2,e3,e4,f,g,k],_=>
   have h0:TwN Tryz.prog W n 5 (([a,b,c,d,e0,e1,e2,e3,e4,f,g,k].drop 0).take (Tryz.prog.cellsOf 5)):=hf 0 _ rfl
   rw [XQ] at h0
   replace h0:TwN Tryz.prog W n 5 [a]:=h0
   have h1:TwN Tryz.prog W n 9 (([a,b,c,d,e0,e1,e2,e3,e4,f,g,k].drop 1).take (Tryz.prog.cellsOf 9)):=hf 1 _ rfl
   rw [vK] at h1
   replace h1:TwN Tryz.prog W n 9 [b]:=h1
   have h2:TwN Tryz.prog W n 9 (([a,b,c,d,e0,e1,e2,e3,e4,f,g,k].drop 2).take (Tryz.prog.cellsOf 9)):=hf 2 _ rfl
   rw [vK] at h2
   replace h2:TwN Tryz.prog W n 9 [c]:=h2
   have h3:TwN Tryz.prog W n 9 (([a,b,c,d,e0,e1,e2,e3,e4,f,g,k].drop 3).take (Tryz.prog.cellsOf 9)):=hf 3 _ rfl
   rw [vK] at h3
   replace h3:TwN Tryz.prog W n 9 [d]:=h3
   have h4:TwN Tryz.prog W n 27 (([a,b,c,d,e0,e1,e2,e3,e4,f,g,k].drop 4).take (Tryz.prog.cellsOf 27)):=hf 4 _ rfl
   rw [Jd] at h4
   replace h4:TwN Tryz.prog W n 27 [e0,e1,e2,e3,e4]:=h4
   have h5:TwN Tryz.prog W n 3 (([a,b,c,d,e0,e1,e2,e3,e4,f,g,k].drop 9).take (Tryz.prog.cellsOf 3)):=hf 5 _ rfl
   rw [yr] at h5
   replace h5:TwN Tryz.prog W n 3 [f]:=h5
   have h6:TwN Tryz.prog W n 28 (([a,b,c,d,e0,e1,e2,e3,e4,f,g,k].drop 10).take (Tryz.prog.cellsOf 28)):=hf 6 _ rfl
   rw [zg3] at h6
   replace h6:TwN Tryz.prog W n 28 [g]:=h6
   have h7:TwN Tryz.prog W n 29 (([a,b,c,d,e0,e1,e2,e3,e4,f,g,k].drop 11).take (Tryz.prog.cellsOf 29)):=hf 7 _ rfl
   rw [zfc] at h7
   replace h7:TwN Tryz.prog W n 29 [k]:=h7
   obtain⟨x0,y0,_⟩:=Z4 Tryz.underlying5 h0.tw
   obtain⟨x1,y1,w1⟩:=kT Tryz.underlying9 h1.tw
   obtain⟨x2,y2,w2⟩:=kT Tryz.underlying9 h2.tw
   obtain⟨x3,y3,w3⟩:=kT Tryz.underlying9 h3.tw
   obtain⟨x4,u,g4,y4,o4,r4⟩:=KS n h4
   obtain⟨x5,y5,_⟩:=Z4 Tryz.underlying3 h5.tw
   obtain⟨x6,v,y6,_,l6,o6,r6⟩:=zbb 0 (fun(x:Int) _=>AV.int .i64 x) (fun _=>True) Tryz.underlying28 yr (by decide) (fun cs' h'=>by
    obtain⟨x,rfl,hx⟩:=Z4 Tryz.underlying3 h'
    refine⟨x,trivial,fun o ho=> ?_⟩
    match o,ho with
    | 0,_=>exact⟨_,rfl,rfl,by simp [Rep]⟩) h6.tw
   obtain⟨x7,w,y7,g7,l7,o7,r7⟩:=Q9 Con.nil (fun x=>Con.cell x.kind x.src x.dst x.name x.x x.date x.days x.sub.length x.deep) Con.thin Tryz.underlying29 Vg (by decide) (fun n' cs' hn' h'=>by
    obtain⟨x,u,v,w,hx,rfl,⟨hu,hv,hw⟩,ru,rv,rz⟩:=ih n' (by omega) h'
    refine⟨x,hx,fun o ho=> ?_⟩
    match o,ho with
    | 0,_=>exact⟨_,rfl,rfl,by simp [Con.cell,Rep]⟩
    | 1,_=>exact⟨_,rfl,rfl,by simp [Con.cell,Rep]⟩
    | 2,_=>exact⟨_,rfl,rfl,by simp [Con.cell,Rep]⟩
    | 3,_=>exact⟨_,rfl,rfl,by simp [Con.cell,Rep]⟩
    | 4,_=>exact⟨_,rfl,rfl,by simp [Con.cell,Rep]⟩
    | 5,_=>exact⟨_,rfl,rfl,by simp [Con.cell,Rep]⟩
    | 6,_=>exact⟨_,rfl,rfl,by simp [Con.cell,Rep]⟩
    | 7,_=>exact⟨_,rfl,rfl,by simp [Con.cell,Rep]⟩
    | 8,_=>exact⟨u,rfl,hu,ru⟩
    | 9,_=>exact⟨_,rfl,rfl,by simp [Con.cell,Rep]⟩
    | 10,_=>exact⟨v,rfl,hv,rv⟩
    | 11,_=>exact⟨w,rfl,hw,rz⟩) h7
   have b6:Tryz.prog.bytesOf 3=8:=by kernel_rfl
   have b7:Tryz.prog.bytesOf 31=184:=by kernel_rfl
   rw [b6] at l6
   rw [b7] at l7
   have hb:reachBytes≤2^48:=by decide
   cases y0; cases y1; cases y2; cases y3; cases y4; cases y5; cases y6; cases y7
   refine⟨.mk x0 x1 x2 x3 x4 x5 x6 x7,_,_,_,?_,rfl,⟨o4,o6,o7⟩,?_,r6,?_⟩
   ·rw [Con.thin]; exact⟨Nat.le_trans w1 hb,Nat.le_trans w2 hb,Nat.le_trans w3 hb,g4,by omega,by omega,Vm g7⟩
   ·exact Js (fun j o hj ho=>(Ex.zA x4 j o hj ho).symm) r4
   ·exact Js (Con.zA (.mk x0 x1 x2 x3 x4 x5 x6 x7)) r7
theorem zjc{W:World}{cs:List Value}(h:Tw Tryz.prog W 31 cs):∃ x:Con,x.thin∧Rep E0 W x.conA [] (.agg cs.toArray):=by
 obtain⟨fuel,h⟩:=h.twn
 obtain⟨x,u,v,w,hx,rfl,_,r1,r2,r3⟩:=zcq fuel h
 refine⟨x,hx,?_⟩
 have r4:Rep E0 W (Con.conS x.sub) [] w:=Js (fun j o hj ho=>(Con.zA x j o hj ho).symm) r3
 simp only [Con.conA,Rep,RepL]
 exact⟨_,rfl,_,_,rfl,rfl,_,_,rfl,rfl,_,_,rfl,rfl,_,_,rfl,rfl,_,_,rfl,rfl,_,_,rfl,rfl,_,_,rfl,rfl,_,_,rfl,rfl,_,_,rfl,r1,_,_,rfl,rfl,_,_,rfl,r2,_,_,rfl,r4,rfl⟩
theorem XS:Tryz.prog.cellsOf 113=1:=by kernel_rfl
theorem zhx:Tryz.prog.cellsOf 151=1:=by kernel_rfl
theorem zgr:Tryz.prog.cellsOf 153=2:=by kernel_rfl
def shpE(H:Type):List (Lit×DataW H):=shpL.map fun p=>(.int .u8 p.1,.agg [.slice (p.2.1.map fun z=>.lit (.int .u8 z)) [],.lit (.int .u8 p.2.2)])
theorem zi3:∀ p∈shpL,ZQ p.1=some p.2∧p.2.1≠[]:=by decide
theorem zil{k:Int}(h:w5 k=true):∃ q,(k,q)∈shpL:=by
 unfold w5 ZQ at h
 rw [Option.isSome_map] at h
 obtain⟨p,hp⟩:=Option.isSome_iff_exists.1 h
 have h1:=List.find?_some hp
 have h2:=List.mem_of_find?_eq_some hp
 have:p.1=k:=by simpa using h1
 exact⟨p.2,by rw [← this]; exact h2⟩
theorem YA{W:World}{cs:List Value}{fuel:Nat}{q:List MemPlace}{c:Value}(hc:W.cell? ⟨1,0,none⟩=some c)
  (h:DataW.trod (fun _=>()) Tryz.prog W 0 (fun _=>true) false fuel 155 [c]=some (.map (shpE Unit),q)) :
  Rep E0 W (.mp .u8 true 2 [] (fun k=>w5 k) fun k o=>match o with
   | 0=>.sl (jG k) 1 fun j _=>.int .u8 (qU k j)
   | _=>.int .u8 (jw k)) [] c∧∀ b,c = .map (some b)→b<W.heap.size:=by
 refine zae (g:=1) rfl Tryz.underlying155 Tryz.underlying5 hc (by decide) h ?_ ?_
 ·intro n d hd
  obtain⟨p,hp,he⟩:=List.mem_map.1 hd
  obtain⟨h1,h2⟩:=zi3 p hp
  simp only [Prod.mk.injEq,Lit.int.injEq,true_and] at he
  obtain⟨rfl,rfl⟩:=he
  refine⟨by simp [w5,h1],fun v m q' hf ht=> ?_⟩
  obtain⟨xs,n',_,hx,hl,hlen,hfs⟩:=DataW.trod_struct Tryz.underlying153 ht
  rw [zgr] at hl
  cases v with
  | agg cs=>
   simp only [Value.cells] at hl hfs
   obtain⟨cs⟩:=cs
   simp only at hl hfs
   match cs,hl with
   | [a,b],_=>
    have f0:DataW.trod _ Tryz.prog W 0 _ false n' 151 (([a,b].drop 0).take (Tryz.prog.cellsOf 151))=xs[0]?:=hfs 0 _ rfl
    have f1:DataW.trod _ Tryz.prog W 0 _ false n' 113 (([a,b].drop 1).take (Tryz.prog.cellsOf 113))=xs[1]?:=hfs 1 _ rfl
    rw [zhx] at f0
    rw [XS] at f1
    match xs,hlen with
    | [x0,x1],_=>
     simp only [List.map_cons,List.map_nil,Prod.mk.injEq,DataW.agg.injEq,List.cons.injEq,and_true] at hx
     obtain⟨⟨hx0,hx1⟩,_⟩:=hx
     have f0:DataW.trod _ Tryz.prog W 0 _ false n' 151 [a]=some x0:=f0
     have f1:DataW.trod _ Tryz.prog W 0 _ false n' 113 [b]=some x1:=f1
     obtain⟨x0a,x0b⟩:=x0
     obtain⟨x1a,x1b⟩:=x1
     simp only at hx0 hx1
     subst hx0; subst hx1
     obtain⟨c0,e0,_,hr⟩:=zef Tryz.underlying151 Tryz.underlying113 XS h2 f0
     cases e0
     obtain⟨z,e1,e2,_⟩:=DataW.trod_int Tryz.underlying113 f1
     cases e1
     simp only [Prod.mk.injEq,DataW.lit.injEq,Lit.int.injEq,true_and] at e2
     refine⟨[a,.int .u8 z],rfl,rfl,fun o ho=> ?_⟩
     have g1:qM p.1=p.2.1:=by simp [qM,h1]
     have g2:jw p.1=p.2.2:=by simp [jw,h1]
     match o,ho with
     | 0,_=>
      refine⟨a,rfl,?_⟩
      show Rep E0 W (.sl (jG p.1) 1 fun j _=>.int .u8 (qU p.1 j)) [] a
      unfold jG qU
      rw [g1]
      exact hr
     | 1,_=>
      refine⟨_,rfl,?_⟩
      show Rep E0 W (.int .u8 (jw p.1)) [] _
      simp only [Rep]
      rw [g2,e2.1]
  | _=>simp [Value.formed,Tryz.underlying153] at hf
 ·intro n hn
  obtain⟨q',hq⟩:=zil hn
  exact⟨_,List.mem_map.2 ⟨_,hq,rfl⟩⟩
theorem zj7:Tryz.prog.globalNamed "novation/observable.shapes" = some 1:=by kernel_rfl
theorem zk8:(Tryz.prog.globals[1]?).map (·.type)=some 155:=by kernel_rfl
theorem zii:(Rows.laid_novation_observable_shapes:DataW Unit) = .map (shpE Unit):=rfl
theorem zmc:Tryz.prog.globalNamed "novation/contract.parts" = some 0:=by kernel_rfl
theorem zlm:(Tryz.prog.globals[0]?).map (·.type)=some 143:=by kernel_rfl
def prtE:List (Lit×DataW Unit):=[(.int .u8 1,.lit (.int .i64 0)),(.int .u8 2,.lit (.int .i64 15)),(.int .u8 3,.lit (.int .i64 256)),(.int .u8 4,.lit (.int .i64 136)),(.int .u8 5,.lit (.int .i64 272)),(.int .u8 6,.lit (.int .i64 160)),(.int .u8 7,.lit (.int .i64 261)),(.int .u8 8,.lit (.int .i64 197)),(.int .u8 9,.lit (.int .i64 208)),(.int .u8 10,.lit (.int .i64 208))]
theorem zg7:(Rows.laid_novation_contract_parts:DataW Unit) = .map prtE:=rfl
abbrev Yl:List (String×DataW Unit):=[("novation/observable.shapes",Rows.laid_novation_observable_shapes),("novation/contract.parts",Rows.laid_novation_contract_parts)]
theorem zc5{W:World}{cs:List Value}{fuel:Nat}{q:List MemPlace}{c:Value}(hc:W.cell? ⟨0,0,none⟩=some c)
  (h:DataW.trod (fun _=>()) Tryz.prog W 0 (fun _=>true) false fuel 143 [c]=some (.map prtE,q)) :
  Rep E0 W (.mp .u8 false 1 [] (fun k=>decide (1≤k∧k≤10)) fun k _=>.int .i64 (kP k)) [] c∧∀ b,c = .map (some b)→b<W.heap.size:=by
 refine zae (g:=0) rfl Tryz.underlying143 Tryz.underlying5 hc (by decide) h ?_ ?_
 ·intro n d hd
  have one:∀ {v:Value} {m:Nat} {q:List MemPlace} {z:Int},v.formed Tryz.prog 3=true→DataW.trod (fun _=>()) Tryz.prog W 0 (fun _=>true) false m 3 v.cells.toList=some (.lit (.int .i64 z),q)→Rep E0 W (.int .i64 z) [] v:=by
   intro v m q z hf ht
   have hcell:v.cells.toList=[v]:=by
    cases v with
    | agg _=>simp [Value.formed,Tryz.underlying3] at hf
    | _=>rfl
   rw [hcell] at ht
   obtain⟨z',e1,e2,_⟩:=DataW.trod_int Tryz.underlying3 ht
   cases e1
   simp only [Prod.mk.injEq,DataW.lit.injEq,Lit.int.injEq,true_and] at e2
   simp only [Rep]
   rw [e2.1]
  simp only [prtE,List.mem_cons,Prod.mk.injEq,Lit.int.injEq,true_and,List.not_mem_nil,or_false] at hd
  rcases hd with ⟨rfl,rfl⟩ | ⟨rfl,rfl⟩ | ⟨rfl,rfl⟩ | ⟨rfl,rfl⟩ | ⟨rfl,rfl⟩ | ⟨rfl,rfl⟩ | ⟨rfl,rfl⟩ | ⟨rfl,rfl⟩ | ⟨rfl,rfl⟩ | ⟨rfl,rfl⟩<;>exact⟨rfl,fun v m q hf ht=>one hf ht⟩
 ·intro n hn
  have hn:=of_decide_eq_true hn
  have:n=1∨n=2∨n=3∨n=4∨n=5∨n=6∨n=7∨n=8∨n=9∨n=10:=by omega
  rcases this with rfl | rfl | rfl | rfl | rfl | rfl | rfl | rfl | rfl | rfl<;>exact⟨_,by unfold prtE; simp; rfl⟩
theorem zit{W:World}(h:laidMetH Tryz.prog Yl W):kg E0 W:=by
 rw [MakeChecks.laidMetH_plain _ _ _ (by kernel_rfl)] at h
 obtain⟨ps,⟨g0,t0,cs0,f0,p0,q0,hg0,ht0,hv0,hd0,hr0,_⟩,_,_⟩:=h
 obtain⟨g1,t1,cs1,f1,p1,q1,hg1,ht1,hv1,hd1,_,_⟩:=hr0
 obtain rfl:=Option.some.inj (zj7.symm.trans hg0)
 obtain rfl:=Option.some.inj (zk8.symm.trans ht0)
 obtain rfl:=Option.some.inj (zmc.symm.trans hg1)
 obtain rfl:=Option.some.inj (zlm.symm.trans ht1)
 rw [zii] at hd0
 rw [zg7] at hd1
 have hone:∃ c,cs0.toList=[c]:=by
  rcases Go.WideElems.open_map Tryz.underlying155 hd0 with ⟨hcs,_⟩ | ⟨b,es,clock,n,_,hcs,_⟩
  ·exact⟨_,hcs⟩
  ·exact⟨_,hcs⟩
 have hone1:∃ c,cs1.toList=[c]:=by
  rcases Go.WideElems.open_map Tryz.underlying143 hd1 with ⟨hcs,_⟩ | ⟨b,es,clock,n,_,hcs,_⟩
  ·exact⟨_,hcs⟩
  ·exact⟨_,hcs⟩
 obtain⟨c,hcs⟩:=hone
 obtain⟨c',hcs'⟩:=hone1
 rw [hcs] at hd0
 rw [hcs'] at hd1
 have k1:W.cell? ⟨1,0,none⟩=some c:=by
  have:=World.var?_cell hg0 hv0 0
  rw [Array.eq_one_of_toList hcs] at this
  simpa using this
 have k2:W.cell? ⟨0,0,none⟩=some c':=by
  have:=World.var?_cell hg1 hv1 0
  rw [Array.eq_one_of_toList hcs'] at this
  simpa using this
 obtain⟨r1,b1⟩:=YA (cs:=[c]) k1 hd0
 obtain⟨r2,b2⟩:=zc5 (cs:=[c']) k2 hd1
 refine⟨fun g a hz=>⟨Vq _,?_⟩⟩
 by_cases hg:g=1
 ·subst hg
  cases hz
  exact⟨c,k1,r1,b1⟩
 ·by_cases hg2:g=0
  ·subst hg2
   cases hz
   exact⟨c',k2,r2,b2⟩
  ·have:Stat.z g=none:=by
    show(if _ then _ else if _ then _ else _)=_
    rw [if_neg hg,if_neg hg2]
   rw [this] at hz; cases hz
theorem walk{W:World}{v0 v1 v2:List Value}(h0:Tw Tryz.prog W 24 v0)(h1:Tw Tryz.prog W 27 v1)(h2:Tw Tryz.prog W 31 v2)(hst:kg E0 W) :
  Calls Tryz.prog 3 #[.agg v0.toArray,.agg v1.toArray,.agg v2.toArray] W fun e W'=>e = .returned (.bool true)∧Below W.heap.size W W':=by
 obtain⟨a,ag,ar⟩:=zm6 h0
 obtain⟨x,xg,xr⟩:=zme h1
 obtain⟨c,cg,cr⟩:=zjc h2
 refine zd5 (fn:=Tryz.f3) (c:=Tryz.f3.body.getD .skip) rfl rfl rfl zex (args:=[a.av,x.exA,c.conA]) (vals:=[.agg v0.toArray,.agg v1.toArray,.agg v2.toArray]) ?_ ?_ hst
 ·refine⟨(a,x,c),⟨?_,⟨xg,cg⟩⟩,⟨true,rfl⟩,?_⟩
  ·simp [eqL,eqA,eqA0,eqL0,envA,fxS,chS,Fx.av,Ch.av,Ex.exA,Ex.exS,Ca.av,Con.conA,Con.dayS,Con.conS,za]
  ·rintro _ rfl
   rfl
 ·exact⟨_,_,rfl,ar,⟨_,_,rfl,xr,⟨_,_,rfl,cr,rfl⟩⟩⟩
theorem own:ownKnob Tryz.prog.godebug=none:=by kernel_rfl
theorem laid:laidOutB Tryz.prog=true:=by kernel_rfl
theorem zdo(os:Os)(args:Array Value):laidMetH Tryz.prog Yl ((World.doorLaid Tryz.prog 400 os).forCall (fun _ _=>0) ⟨#[],args,[]⟩).memory:=
 laidMetH_of_parts3 (fuel:=8) (laidMet_of_run' 8 (by kernel_rfl) (by kernel_rfl)) (by kernel_rfl) (by kernel_rfl)
theorem lifted(os:Os)(started:os.Started)(H:Type)(enc:TypeId×Value→H) :
  ReturnsInHanded {} Tryz.checked os 3 .any (fun w args=>(Rows.corporateTellsSpec.pre enc Tryz.prog Tryz.f3 [] false w args∧laidMetH Tryz.prog Yl w)∧sizedMet enc Tryz.prog Tryz.f3 (OpenSpec.ofChange Rows.corporateTellsSpec) false w args)
   (Rows.corporateTellsSpec.post enc Tryz.prog Tryz.f3 false true false false):=by
 refine returnsInHanded_of_change_and (C:=Tryz.checked) (X:=fun w _=>laidMetH Tryz.prog Yl w) (fun _ _ _ hh h=>h.of_heap hh) own started (by kernel_rfl) Tryz.func3
  (ChangeSpec.witness_shaped (enc:=enc) (C:=Tryz.checked) (os:=os) (X:=fun w _=>laidMetH Tryz.prog Yl w) false (World.doorLaid Tryz.prog 400 os) #[.agg #[.string ⟨#[]⟩,.string ⟨#[]⟩,.int .i64 0,.string ⟨#[]⟩,.string ⟨#[]⟩],.agg #[.int .u8 0,.string ⟨#[]⟩,.string ⟨#[]⟩,.int .i64 0,.slice none 0 0],.agg #[.int .u8 0,.string ⟨#[]⟩,.string ⟨#[]⟩,.string ⟨#[]⟩,.int .u8 0,.string ⟨#[]⟩,.string ⟨#[]⟩,.int .i64 0,.slice none 0 0,.int .i64 0,.slice none 0 0,.slice none 0 0]] 8 rfl (World.shaped_of_RefB (by kernel_rfl) (by kernel_rfl)) (by kernel_rfl) (by kernel_rfl) (by kernel_rfl) (zdo os _)) ?_
 intro W base args ds gs before hval0 hW hcnd hwt hL _
 have hval:∀ (j:Nat) t v,Tryz.f3.params[j]?=some t→args[j]?=some v→Value.okWide Tryz.prog W .any base t v:=hval0
 have hW':=hW
 obtain⟨p,q,hA0,hV,rfl,hfz,hnd⟩:=hW
 have hA:DataW.TrodAll enc Tryz.prog W 0 (fun _=>true) true Tryz.f3.params.toList args.toList ds p:=hA0
 rw [Tryz.params3] at hA hval
 obtain⟨v0,vs0,d0,ds0,p0,q0,hargs,rfl,rfl,h0,r0⟩:=trodAll_cons hA
 obtain⟨v1,vs1,d1,ds1,p1,q1,rfl,rfl,rfl,h1,r1⟩:=trodAll_cons r0
 obtain⟨v2,vs2,d2,ds2,p2,q2,rfl,rfl,rfl,h2,r2⟩:=trodAll_cons r1
 obtain⟨rfl,rfl,rfl⟩:=trodAll_nil r2
 obtain rfl:args = #[v0,v1,v2]:=by cases args; simp_all
 obtain⟨rfl,rfl⟩:=trodVars_none hV
 clear hA0 hval0
 simp only [List.append_nil] at hW' hwt
 have hw:∀ (j:Nat) (t:TypeId) (d:DataW H),[24,27,31][j]?=some t→[d0,d1,d2][j]?=some d→∀ n∈d.weights Tryz.prog t,n≤reachBytes:=fun j t d ht hd n hn=>by
  have:=List.all_eq_true.1 hwt n (DataW.weights_mem_each (j:=j) (t:=t) (d:=d) (by exact ht) (by exact hd) n hn)
  simpa using this
 obtain⟨c0,rfl,_⟩:=okWide_struct Tryz.underlying24 (hval 0 24 v0 rfl rfl)
 obtain⟨c1,rfl,_⟩:=okWide_struct Tryz.underlying27 (hval 1 27 v1 rfl rfl)
 obtain⟨c2,rfl,_⟩:=okWide_struct Tryz.underlying31 (hval 2 31 v2 rfl rfl)
 have t0:Tw Tryz.prog W 24 c0.toList:=by
  obtain⟨fuel,hf⟩:=h0
  exact⟨H,enc,0,fuel,d0,p0,by simpa [Value.cells] using hf,hw 0 _ d0 rfl rfl⟩
 have t1:Tw Tryz.prog W 27 c1.toList:=by
  obtain⟨fuel,hf⟩:=h1
  exact⟨H,enc,0,fuel,d1,p1,by simpa [Value.cells] using hf,hw 1 _ d1 rfl rfl⟩
 have t2:Tw Tryz.prog W 31 c2.toList:=by
  obtain⟨fuel,hf⟩:=h2
  exact⟨H,enc,0,fuel,d2,p2,by simpa [Value.cells] using hf,hw 2 _ d2 rfl rfl⟩
 have hlt:∀ x∈p0++(p1++p2),x.block<W.heap.size:=fun x hx=>by simpa using hW'.lt x (by simpa using hx)
 have hcall:=walk t0 t1 t2 (zit hL)
 simp only [Array.toArray_toList] at hcall
 refine hcall.mono fun e W' ⟨he,hb⟩=> ?_
 subst he
 refine⟨_,rfl,_,_,_,[],p0++(p1++p2),[],hW',trodAll_mk1 (shut_bool Tryz.underlying4 true),?_,rfl,hb.frame _,fun h=>by cases h⟩
 exact trodAll_mk3 (Below.trod laid (by kernel_rfl) (of_decide_eq_true (by kernel_rfl)) h0 hb fun x hx=>hlt x (by simp [hx])) (Below.trod laid (by kernel_rfl) (of_decide_eq_true (by kernel_rfl)) h1 hb fun x hx=>hlt x (by simp [hx])) (Below.trod laid (by kernel_rfl) (of_decide_eq_true (by kernel_rfl)) h2 hb fun x hx=>hlt x (by simp [hx]))
theorem over:Rows.corporateTellsRow.holds Tryz.pinned (OpenSpec.ofChange Rows.corporateTellsSpec):=
 OpenClaim.holds_of_wide 3 Tryz.f3 rfl rfl rfl rfl rfl rfl rfl ⟨rfl,rfl,rfl,rfl,rfl⟩ rfl rfl rfl rfl rfl (by kernel_rfl) Tryz.func3 (by kernel_rfl)
  (of_decide_eq_true (by kernel_rfl)) (by unfold Func.isWrapper; first | (rw [if_pos (by decide +kernel)]; kernel_rfl) | (rw [if_neg (by decide +kernel)]; exact⟨rfl,rfl⟩))
  (fun os started H enc _=>lifted os started H enc)
theorem yw:Rows.CorporateTellsSaid:=over
theorem corporateTells_holds:Rows.CorporateTellsCardSaid:=
 Claim7.holds_tied_plain_at .later [] [.mappedDeep,.mapped] true (true, "69ccaedfd415ad9045f2381b74d6cc68628330c4f2bc993b1bea59fec527b584") false
  yw (fun _ h=>by cases h) (by kernel_rfl) (fun _ h=>by cases h) corporateTells_row_tie rfl ⟨rfl,rfl⟩ (by kernel_rfl) rfl
  (fun f fn hf hfn=>by
   obtain rfl:f=3:=Option.some.inj ((show Tryz.prog.funcNamed "novation/novationlaw22.CorporateTells" = some 3 by kernel_rfl).symm.trans hf) |>.symm
   obtain rfl:fn=Tryz.f3:=(Option.some.inj (Tryz.func3.symm.trans hfn)).symm
   exact⟨by kernel_rfl,fun j t ht=>by
    rw [Tryz.params3] at ht
    have hm:t∈[24,27,31]:=by simpa using Array.mem_of_getElem? ht
    have hall:([24,27,31].all fun u=> !Tryz.prog.wantsStandIn u)=true:=by kernel_rfl
    exact(show Tryz.prog.wantsStandIn t=false by simpa using List.all_eq_true.1 hall t hm)⟩)
  (by kernel_rfl)
end Go.Proofs.YtlkbiennfpeoiaaGreatDoor
end
