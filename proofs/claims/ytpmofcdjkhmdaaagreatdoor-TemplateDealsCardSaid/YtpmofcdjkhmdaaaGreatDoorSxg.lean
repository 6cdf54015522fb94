/- The law returns true for every input, and each argument reads afterwards as it read before; no condition. -/
import Derived.Test.YtpmofcdjkhmdaaaGreatDoorSxf
import Derived.SizedLaws
import Derived.ChangeArms
import Derived.Deep.Slices
import Derived.Carry
import Derived.LaidMore
import Derived.WideKeyElems2
import Derived.ProofKit
import Derived.OpenShut
import Derived.ReadAgain
import Derived.Test.YtpmofcdjkhmdaaaGreatDoorRows
import Derived.MakeChecks
import Derived.Test.YtpmofcdjkhmdaaaGreatDoorCards
import Derived.Test.YtpmofcdjkhmdaaaGreatDoorTie
import Derived.Stop.Joined
import Derived.SevenTiedAt
set_option linter.unusedVariables false
set_option linter.unusedSimpArgs false
set_option linter.unusedSectionVars false

/- Templates: the reference's deals. -/
section
set_option maxRecDepth 100000
open Go Go.Sx Go.Proofs Go.Nov
namespace Go.Proofs.Tryz
attribute [local simp] eqKV eqA eqA0 eqH eqB eqL eqL0
theorem qW {A B : Prop} (ha : A) (hb : B) : (∃ _ : Bool, True) ∧ ∀ n : Bool, True → (n = true → A) ∧ (n = false → B) := ⟨⟨true, trivial⟩, fun _ _ => ⟨fun _ => ha, fun _ => hb⟩⟩
theorem XK : zd Tryz.prog 151 konC := by
 refine zk (fn := Tryz.f151) (c := Tryz.f151.body.getD .skip) rfl rfl rfl fun r hp O w0 Q hq => ?_
 replace hq := hq () trivial
 refine zc.run hmix zy [] 400 (T := .leaf (.ret [.agg [.int .u8 1, .str r, .str (Array.toList #[]), .int .i64 0, .nils]] [.box [.int .u8 1, .str r, .str (Array.toList #[]), .int .i64 0, .nils]])) (by kernel_rfl) ?_
 simp only [Tree.holds, ze]
 refine RetR.out0 hq (fun h => by cases h) ?_
 exact ⟨⟨rfl, rfl⟩, rfl, rfl, ⟨rfl, rfl⟩, rfl, trivial⟩
def zfc : Ctr := ctrP false (fun r : List UInt8 => [.str r]) (fun _ => True) (fun _ (_ : Unit) => True) (fun r _ => (exD (Tm.spot r), []))
theorem zek : zd Tryz.prog 150 zfc := by
 refine zk (fn := Tryz.f150) (c := Tryz.f150.body.getD .skip) rfl rfl rfl fun r hp O w0 Q hq => ?_
 replace hq := hq () trivial
 refine zc.run hmix zy [] 400 (T := .leaf (.ret [.agg [.int .u8 3, .str (Array.toList #[]), .str r, .int .i64 0, .nils]] [.box [.int .u8 3, .str (Array.toList #[]), .str r, .int .i64 0, .nils]])) (by kernel_rfl) ?_
 simp only [Tree.holds, ze]
 refine RetR.out0 hq (fun h => by cases h) ?_
 exact ⟨⟨rfl, rfl⟩, rfl, rfl, ⟨rfl, rfl⟩, rfl, trivial⟩
def Xn : Ctr := { ctrP false (fun p : Int × Ex × Ex => [.int .u8 p.1, p.2.1.exA, p.2.2.exA]) (fun _ => True) (fun _ (_ : Unit) => True) (fun p _ => (exD (Tm.opx p.1 [p.2.1, p.2.2]), [])) with sinks := true }
theorem VV : zd Tryz.prog 149 Xn := by
 refine zd.sink (zk (fn := Tryz.f149) (c := Tryz.f149.body.getD .skip) rfl rfl rfl fun p hp O w0 Q hq => ?_)
 obtain ⟨k, x, y⟩ := p
 replace hq := hq () trivial
 refine zc.run hmix zy [] 400 (T := .leaf (.ret [.agg [.int .u8 k, .str (Array.toList #[]), .str (Array.toList #[]), .int .i64 0, .osl 3 5 0 2]] [.box [.int .u8 x.kind, .str x.rat, .str x.name, .int .i64 x.date, .sl x.sub.length 5 (Ex.exG x.sub)], .box [.int .u8 y.kind, .str y.rat, .str y.name, .int .i64 y.date, .sl y.sub.length 5 (Ex.exG y.sub)], .box [.int .u8 k, .str (Array.toList #[]), .str (Array.toList #[]), .int .i64 0, .osl 3 5 0 2], .arr 2 5 (zj 5 [.int .u8 x.kind, .str x.rat, .str x.name, .int .i64 x.date, .sl x.sub.length 5 (Ex.exG x.sub), .int .u8 y.kind, .str y.rat, .str y.name, .int .i64 y.date, .sl y.sub.length 5 (Ex.exG y.sub)])])) (by kernel_rfl) ?_
 simp only [Tree.holds, ze]
 exact RetR.le0 hq (fun h => by cases h) (LeA.agg ⟨LeA.refl _, LeA.refl _, LeA.refl _, LeA.refl _, Ex.xU ⟨LeA.refl _, LeA.refl _, LeA.refl _, LeA.refl _, Ex.wh x, LeA.refl _, LeA.refl _, LeA.refl _, LeA.refl _, Ex.wh y, trivial⟩, trivial⟩)
noncomputable def GRex : Nat → Option Ctr := fun f => if f = 151 then some (konC) else if f = 149 then some (Xn) else none
theorem zef : ∀ g c, GRex g = some c → zd Tryz.prog g c := okIf XK (okIf VV (zx))
def zat (a b : Ex) (c : Bool) : Ex := Tm.opx 7 [Tm.kon [48], Tm.opx 5 (if c = true then [b, a] else [a, b])]
def Ye : Ctr := { ctrP false (fun p : Ex × Ex × Bool => [p.1.exA, p.2.1.exA, .bool p.2.2]) (fun _ => True) (fun _ (_ : Unit) => True) (fun p _ => (exD (zat p.1 p.2.1 p.2.2), [])) with sinks := true }
theorem YA : zd Tryz.prog 165 Ye := by
 refine zd.sink (zk (fn := Tryz.f165) (c := Tryz.f165.body.getD .skip) rfl rfl rfl fun p hp O w0 Q hq => ?_)
 obtain ⟨a, b, c⟩ := p
 replace hq := hq () trivial
 simp only at hq
 refine zc.run hmix zef [] 400 (T := .ite c (.ex (fun (x : List UInt8) => eqL [AV.str (Array.toList #[(48 : UInt8)])] [AV.str x] ∧ True) fun n => .all (fun (x : Unit) => True) fun n_1 => .ex (fun (x : Int × Ex × Ex) => eqL [AV.int .u8 5, b.exA, a.exA] [AV.int .u8 x.1, x.2.1.exA, x.2.2.exA] ∧ True) fun n_2 => .all (fun (x : Unit) => True) fun n_3 => .ex (fun (x : Int × Ex × Ex) => eqL [AV.int .u8 7, (exD (Tm.kon n)), (exD (Tm.opx n_2.1 [n_2.2.1, n_2.2.2]))] [AV.int .u8 x.1, x.2.1.exA, x.2.2.exA] ∧ True) fun n => .all (fun (x : Unit) => True) fun n_4 => .leaf (.ret [(exD (Tm.opx n.1 [n.2.1, n.2.2]))] [.box [.int .u8 a.kind, .str a.rat, .str a.name, .int .i64 a.date, .sl a.sub.length 5 (Ex.exG a.sub)], .box [.int .u8 b.kind, .str b.rat, .str b.name, .int .i64 b.date, .sl b.sub.length 5 (Ex.exG b.sub)], .box (Ex.cellsD (Tm.opx n.1 [n.2.1, n.2.2]))])) (.ex (fun (x : List UInt8) => eqL [AV.str (Array.toList #[(48 : UInt8)])] [AV.str x] ∧ True) fun n => .all (fun (x : Unit) => True) fun n_1 => .ex (fun (x : Int × Ex × Ex) => eqL [AV.int .u8 5, a.exA, b.exA] [AV.int .u8 x.1, x.2.1.exA, x.2.2.exA] ∧ True) fun n_2 => .all (fun (x : Unit) => True) fun n_3 => .ex (fun (x : Int × Ex × Ex) => eqL [AV.int .u8 7, (exD (Tm.kon n)), (exD (Tm.opx n_2.1 [n_2.2.1, n_2.2.2]))] [AV.int .u8 x.1, x.2.1.exA, x.2.2.exA] ∧ True) fun n => .all (fun (x : Unit) => True) fun n_4 => .leaf (.ret [(exD (Tm.opx n.1 [n.2.1, n.2.2]))] [.box [.int .u8 a.kind, .str a.rat, .str a.name, .int .i64 a.date, .sl a.sub.length 5 (Ex.exG a.sub)], .box [.int .u8 b.kind, .str b.rat, .str b.name, .int .i64 b.date, .sl b.sub.length 5 (Ex.exG b.sub)], .box (Ex.cellsD (Tm.opx n.1 [n.2.1, n.2.2]))]))) (by kernel_rfl) ?_
 simp only [Tree.holds, ze]
 refine ⟨fun h => ?_, fun h => ?_⟩
 all_goals
  subst h
  refine ⟨[48], ⟨⟨rfl, trivial⟩, trivial⟩, ⟨(), trivial⟩, fun _ _ => ?_⟩
 ·refine ⟨(5, b, a), ⟨⟨⟨rfl, rfl⟩, zK b, zK a, trivial⟩, trivial⟩, ⟨(), trivial⟩, fun _ _ => ?_⟩
  refine ⟨(7, Tm.kon [48], Tm.opx 5 [b, a]), ⟨⟨⟨rfl, rfl⟩, zT _, zT _, trivial⟩, trivial⟩, ⟨(), trivial⟩, fun _ _ => ?_⟩
  exact RetR.le0 hq (fun h => by cases h) (LeA.refl _)
 ·refine ⟨(5, a, b), ⟨⟨⟨rfl, rfl⟩, zK a, zK b, trivial⟩, trivial⟩, ⟨(), trivial⟩, fun _ _ => ?_⟩
  refine ⟨(7, Tm.kon [48], Tm.opx 5 [a, b]), ⟨⟨⟨rfl, rfl⟩, zT _, zT _, trivial⟩, trivial⟩, ⟨(), trivial⟩, fun _ _ => ?_⟩
  exact RetR.le0 hq (fun h => by cases h) (LeA.refl _)
def zct : Ctr := { ctrP false (fun p : Deal × Ex => [p.1.av, p.2.exA]) (fun _ => True) (fun _ (_ : Unit) => True) (fun p _ => ((Con.mk 2 p.1.short p.1.long p.1.ccy p.2 0 [] []).conD, [])) with sinks := true }
theorem zcx : zd Tryz.prog 148 zct := by
 refine zd.sink (zk (fn := Tryz.f148) (c := Tryz.f148.body.getD .skip) rfl rfl rfl fun p hp O w0 Q hq => ?_)
 obtain ⟨d, x⟩ := p
 replace hq := hq () trivial
 simp only at hq
 refine zc.run hmix zy [] 400 (T := .leaf (.ret [.agg [.int .u8 2, .str (Deal.short d), .str (Deal.long d), .str (Deal.ccy d), .int .u8 x.kind, .str x.rat, .str x.name, .int .i64 x.date, .sl x.sub.length 5 (Ex.exG x.sub), .int .i64 0, .nils, .nils]] [.box [.str (Deal.long d), .str (Deal.short d), .str (Deal.ccy d), .str (Deal.name d), .str (Deal.zb d), .str (Deal.zf d)], .box [.int .u8 x.kind, .str x.rat, .str x.name, .int .i64 x.date, .sl x.sub.length 5 (Ex.exG x.sub)], .box [.int .u8 2, .str (Deal.short d), .str (Deal.long d), .str (Deal.ccy d), .int .u8 x.kind, .str x.rat, .str x.name, .int .i64 x.date, .sl x.sub.length 5 (Ex.exG x.sub), .int .i64 0, .nils, .nils]])) (by kernel_rfl) ?_
 simp only [Tree.holds, ze]
 exact RetR.le0 hq (fun h => by cases h) (LeA.agg ⟨LeA.refl _, LeA.refl _, LeA.refl _, LeA.refl _, LeA.refl _, LeA.refl _, LeA.refl _, LeA.refl _, LeA.refl _, LeA.refl _, LeA.nils, LeA.nils, trivial⟩)
def ronC : Ctr := { onC with sinks := true }
theorem za2 : zd Tryz.prog 147 ronC := by
 refine zd.sink (c := onC) (zk (fn := Tryz.f147) (c := Tryz.f147.body.getD .skip) rfl rfl rfl fun p hp O w0 Q hq => ?_)
 obtain ⟨d, c⟩ := p
 replace hq := hq () trivial
 simp only at hq
 refine zc.run hmix zy [] 400 (T := .leaf (.ret [.agg [.int .u8 6, .str (Array.toList #[]), .str (Array.toList #[]), .str (Array.toList #[]), .int .u8 0, .str (Array.toList #[]), .str (Array.toList #[]), .int .i64 0, .nils, .int .i64 d, .nils, .osl 2 12 0 1]] [.box (Con.zh c), .box [.int .u8 6, .str (Array.toList #[]), .str (Array.toList #[]), .str (Array.toList #[]), .int .u8 0, .str (Array.toList #[]), .str (Array.toList #[]), .int .i64 0, .nils, .int .i64 d, .nils, .osl 2 12 0 1], .arr 1 12 (zj 12 (Con.zh c))])) (by kernel_rfl) ?_
 simp only [Tree.holds, ze]
 exact RetR.le0 hq (fun h => by cases h) (LeA.agg ⟨LeA.refl _, LeA.refl _, LeA.refl _, LeA.refl _, LeA.refl _, LeA.refl _, LeA.refl _, LeA.refl _, LeA.nils, LeA.refl _, LeA.nils, Con.JD (e := c) ⟨LeA.refl _, LeA.refl _, LeA.refl _, LeA.refl _, LeA.refl _, LeA.refl _, LeA.refl _, LeA.refl _, LeA.refl _, LeA.refl _, LeA.refl _, Con.wh c, trivial⟩, trivial⟩)
noncomputable def GRte : Nat → Option Ctr := fun f => if f = 116 then some (Qk) else none
theorem zf7 : ∀ g c, GRte g = some c → zd Tryz.prog g c := okIf Qz (zx)
def Kr : Ctr := ctrP true (fun d : Deal => [d.av]) (fun d => Tm.fits d) (fun d r => r = Tm.first 0 [d.zb, d.zf]) (fun _ (r : Int) => (.int .i64 r, []))
theorem VK : zd Tryz.prog 145 Kr := by
 refine zk (fn := Tryz.f145) (c := Tryz.f145.body.getD .skip) rfl rfl rfl fun d hp O w0 Q hq => ?_
 replace hq := hq _ rfl
 refine zc.run hmix zf7 [] 400 (T := .ex (fun (x : List UInt8) => eqL [AV.str (Deal.zb d)] [AV.str x] ∧ x.length < 1099511627776) fun n => .all (fun (r : Int) => r = errR n) fun n => .ite (decide (n = 0)) (.ex (fun (x : List UInt8) => eqL [AV.str (Deal.zf d)] [AV.str x] ∧ x.length < 1099511627776) fun n => .all (fun (r : Int) => r = errR n) fun n => .leaf (.ret [.int .i64 n] [.box [.str (Deal.long d), .str (Deal.short d), .str (Deal.ccy d), .str (Deal.name d), .str (Deal.zb d), .str (Deal.zf d)]])) (.leaf (.ret [.int .i64 n] [.box [.str (Deal.long d), .str (Deal.short d), .str (Deal.ccy d), .str (Deal.name d), .str (Deal.zb d), .str (Deal.zf d)]]))) (by kernel_rfl) ?_
 simp only [Tree.holds, ze]
 have h5 : d.zb.length ≤ 2500 := hp.2.2.2.2.1
 have h6 : d.zf.length ≤ 2500 := hp.2.2.2.2.2
 simp only [Tm.first, List.foldl_cons, List.foldl_nil, if_true] at hq
 refine ⟨d.zb, ⟨by simp, by omega⟩, ⟨_, rfl⟩, ?_⟩
 rintro _ rfl
 refine ⟨fun h => ?_, fun h => ?_⟩
 ·rw [if_pos (of_decide_eq_true h)] at hq
  refine ⟨d.zf, ⟨by simp, by omega⟩, ⟨_, rfl⟩, ?_⟩
  rintro _ rfl
  exact RetR.scal hq rfl (by simp [resV])
 ·rw [if_neg (of_decide_eq_false h)] at hq
  exact RetR.scal hq rfl (by simp [resV])
def zd5 : Ctr := { y9 with sinks := true }
theorem YT : zd Tryz.prog 27 zd5 := zgg.sink
noncomputable def GRch : Nat → Option Ctr := fun f => if f = 110 then some (xq) else if f = 27 then some (zd5) else none
theorem zes : ∀ g c, GRch g = some c → zd Tryz.prog g c := okIf KC (okIf YT (zx))
noncomputable def Qb : Ctr := { inlC Tryz.prog GRch 100 Tryz.f146 with sinks := true }
theorem uA : zd Tryz.prog 146 Qb := zd.sink (c := inlC Tryz.prog GRch 100 Tryz.f146) (xA hmix zes rfl rfl)
noncomputable def GRfw : Nat → Option Ctr := fun f => if f = 145 then some (Kr) else if f = 146 then some (Qb) else if f = 147 then some (ronC) else if f = 148 then some (zct) else if f = 149 then some (Xn) else if f = 150 then some (zfc) else if f = 151 then some (konC) else if f = 165 then some (Ye) else none
theorem Yc : ∀ g c, GRfw g = some c → zd Tryz.prog g c := okIf VK (okIf uA (okIf za2 (okIf zcx (okIf VV (okIf zek (okIf XK (okIf YA (zx))))))))
theorem WC : zd Tryz.prog 56 yv := by
 refine zk (fn := Tryz.f56) (c := Tryz.f56.body.getD .skip) rfl rfl rfl fun p hp O w0 Q hq => ?_
 obtain ⟨d, day⟩ := p
 replace hq := hq () trivial
 replace hp : Tm.fits d := hp
 simp only at hq
 have hbig := Tm.Wa (day := day) hp
 refine zc.run hmix Yc [] 400 (T := .ex (fun (x : Deal) => eqL [(Deal.av d)] [(Deal.av x)] ∧ Tm.fits x) fun n => .all (fun (r : Int) => r = Tm.first (0 : Int) [Deal.zb n, Deal.zf n]) fun n => .ite (!decide (n = 0)) (.leaf (.ret [.agg [.int .u8 0, .str (Array.toList #[]), .str (Array.toList #[]), .str (Array.toList #[]), .int .u8 0, .str (Array.toList #[]), .str (Array.toList #[]), .int .i64 0, .nils, .int .i64 0, .nils, .nils], .int .i64 n] [.box [.str (Deal.long d), .str (Deal.short d), .str (Deal.ccy d), .str (Deal.name d), .str (Deal.zb d), .str (Deal.zf d)], .box [.int .u8 0, .str (Array.toList #[]), .str (Array.toList #[]), .str (Array.toList #[]), .int .u8 0, .str (Array.toList #[]), .str (Array.toList #[]), .int .i64 0, .nils, .int .i64 0, .nils, .nils]])) (.all (fun (x : Bool) => True) fun n => .ite n (.ex (fun (x : List UInt8) => eqL [AV.str (Deal.name d)] [AV.str x] ∧ True) fun n => .all (fun (x : Unit) => True) fun n_1 => .all (fun (x : Bool) => True) fun n_2 => .ite n_2 (.ex (fun (x : List UInt8) => eqL [AV.str (Deal.zb d)] [AV.str x] ∧ True) fun n_3 => .all (fun (x : Unit) => True) fun n_4 => .all (fun (x : Bool) => True) fun n_5 => .ite n_5 (.ex (fun (x : Int × Ex × Ex) => eqL [AV.int .u8 5, (exD (Tm.spot n)), (exD (Tm.kon n_3))] [AV.int .u8 x.1, x.2.1.exA, x.2.2.exA] ∧ True) fun n => .all (fun (x : Unit) => True) fun n_6 => .all (fun (x : Bool) => True) fun n_7 => .ite n_7 (.ex (fun (x : List UInt8) => eqL [AV.str (Deal.zf d)] [AV.str x] ∧ True) fun n_8 => .all (fun (x : Unit) => True) fun n_9 => .all (fun (x : Bool) => True) fun n_10 => .ite n_10 (.ex (fun (x : Int × Ex × Ex) => eqL [AV.int .u8 6, (exD (Tm.opx n.1 [n.2.1, n.2.2])), (exD (Tm.kon n_8))] [AV.int .u8 x.1, x.2.1.exA, x.2.2.exA] ∧ True) fun n => .all (fun (x : Unit) => True) fun n_11 => .all (fun (x : Bool) => True) fun n_12 => .ite n_12 (.ex (fun (x : Deal × Ex) => eqL [(Deal.av d), (exD (Tm.opx n.1 [n.2.1, n.2.2]))] [(Deal.av x.1), x.2.exA] ∧ True) fun n => .all (fun (x : Unit) => True) fun n_13 => .all (fun (x : Bool) => True) fun n_14 => .ite n_14 (.ex (fun (x : Int × Con) => eqL [AV.int .i64 day, (Con.conD (Con.mk (2 : Int) (Deal.short n.1) (Deal.long n.1) (Deal.ccy n.1) n.2 (0 : Int) [] []))] [AV.int .i64 x.1, (Con.conA x.2)] ∧ True) fun n => .all (fun (x : Unit) => True) fun n_15 => .all (fun (x : Bool) => True) fun n_16 => .ite n_16 (.ex (fun (x : Con) => eqL [(Con.conD (Tm.at_ n.1 n.2))] [(Con.conA x)] ∧ Con.big x < 1099511627776 ∧ Con.nodes x ≤ 1000000) fun n_17 => .all (fun (r : Int) => r = Con.errC n_17) fun n_18 => .ite (!decide (n_18 = 0)) (.leaf (.ret [.agg [.int .u8 0, .str (Array.toList #[]), .str (Array.toList #[]), .str (Array.toList #[]), .int .u8 0, .str (Array.toList #[]), .str (Array.toList #[]), .int .i64 0, .nils, .int .i64 0, .nils, .nils], .int .i64 n_18] [.box [.str (Deal.long d), .str (Deal.short d), .str (Deal.ccy d), .str (Deal.name d), .str (Deal.zb d), .str (Deal.zf d)], .box [.int .u8 0, .str (Array.toList #[]), .str (Array.toList #[]), .str (Array.toList #[]), .int .u8 0, .str (Array.toList #[]), .str (Array.toList #[]), .int .i64 0, .nils, .int .i64 0, .nils, .nils], .box (Con.zg (Tm.at_ n.1 n.2)), .box [.int .u8 0, .str (Array.toList #[]), .str (Array.toList #[]), .str (Array.toList #[]), .int .u8 0, .str (Array.toList #[]), .str (Array.toList #[]), .int .i64 0, .nils, .int .i64 0, .nils, .nils], .box [.int .u8 0, .str (Array.toList #[]), .str (Array.toList #[]), .str (Array.toList #[]), .int .u8 0, .str (Array.toList #[]), .str (Array.toList #[]), .int .i64 0, .nils, .int .i64 0, .nils, .nils]])) (.ex (fun (x : Con) => eqL [(Con.conD (Tm.at_ n.1 n.2))] [(Con.conA x)] ∧ Con.big x < 274877906944) fun n_19 => .all (fun (x : Unit) => True) fun n_20 => .leaf (.ret [(Con.conD n_19), .int .i64 0] [.box [.str (Deal.long d), .str (Deal.short d), .str (Deal.ccy d), .str (Deal.name d), .str (Deal.zb d), .str (Deal.zf d)], .box (Con.zg n_19), .box (Con.zg (Tm.at_ n.1 n.2)), .box (Con.zg n_19), .box (Con.zg n_19)]))) (.ex (fun (x : Con) => eqL [(Con.conD (Tm.at_ n.1 n.2))] [(Con.conA x)] ∧ Con.big x < 1099511627776 ∧ Con.nodes x ≤ 1000000) fun n_17 => .all (fun (r : Int) => r = Con.errC n_17) fun n_18 => .ite (!decide (n_18 = 0)) (.leaf (.ret [.agg [.int .u8 0, .str (Array.toList #[]), .str (Array.toList #[]), .str (Array.toList #[]), .int .u8 0, .str (Array.toList #[]), .str (Array.toList #[]), .int .i64 0, .nils, .int .i64 0, .nils, .nils], .int .i64 n_18] [.box [.str (Deal.long d), .str (Deal.short d), .str (Deal.ccy d), .str (Deal.name d), .str (Deal.zb d), .str (Deal.zf d)], .box [.int .u8 0, .str (Array.toList #[]), .str (Array.toList #[]), .str (Array.toList #[]), .int .u8 0, .str (Array.toList #[]), .str (Array.toList #[]), .int .i64 0, .nils, .int .i64 0, .nils, .nils], .box [.int .u8 0, .str (Array.toList #[]), .str (Array.toList #[]), .str (Array.toList #[]), .int .u8 0, .str (Array.toList #[]), .str (Array.toList #[]), .int .i64 0, .nils, .int .i64 0, .nils, .nils], .box (Con.zg (Tm.at_ n.1 n.2)), .box [.int .u8 0, .str (Array.toList #[]), .str (Array.toList #[]), .str (Array.toList #[]), .int .u8 0, .str (Array.toList #[]), .str (Array.toList #[]), .int .i64 0, .nils, .int .i64 0, .nils, .nils]])) (.ex (fun (x : Con) => eqL [(Con.conD (Tm.at_ n.1 n.2))] [(Con.conA x)] ∧ Con.big x < 274877906944) fun n_19 => .all (fun (x : Unit) => True) fun n_20 => .leaf (.ret [(Con.conD n_19), .int .i64 0] [.box [.str (Deal.long d), .str (Deal.short d), .str (Deal.ccy d), .str (Deal.name d), .str (Deal.zb d), .str (Deal.zf d)], .box (Con.zg n_19), .box (Con.zg n_19), .box (Con.zg (Tm.at_ n.1 n.2)), .box (Con.zg n_19)])))) (.ex (fun (x : Int × Con) => eqL [AV.int .i64 day, (Con.conD (Con.mk (2 : Int) (Deal.short n.1) (Deal.long n.1) (Deal.ccy n.1) n.2 (0 : Int) [] []))] [AV.int .i64 x.1, (Con.conA x.2)] ∧ True) fun n => .all (fun (x : Unit) => True) fun n_15 => .ex (fun (x : Con) => eqL [(Con.conD (Tm.at_ n.1 n.2))] [(Con.conA x)] ∧ Con.big x < 1099511627776 ∧ Con.nodes x ≤ 1000000) fun n_16 => .all (fun (r : Int) => r = Con.errC n_16) fun n_17 => .ite (!decide (n_17 = 0)) (.leaf (.ret [.agg [.int .u8 0, .str (Array.toList #[]), .str (Array.toList #[]), .str (Array.toList #[]), .int .u8 0, .str (Array.toList #[]), .str (Array.toList #[]), .int .i64 0, .nils, .int .i64 0, .nils, .nils], .int .i64 n_17] [.box [.str (Deal.long d), .str (Deal.short d), .str (Deal.ccy d), .str (Deal.name d), .str (Deal.zb d), .str (Deal.zf d)], .box [.int .u8 0, .str (Array.toList #[]), .str (Array.toList #[]), .str (Array.toList #[]), .int .u8 0, .str (Array.toList #[]), .str (Array.toList #[]), .int .i64 0, .nils, .int .i64 0, .nils, .nils], .box [.int .u8 0, .str (Array.toList #[]), .str (Array.toList #[]), .str (Array.toList #[]), .int .u8 0, .str (Array.toList #[]), .str (Array.toList #[]), .int .i64 0, .nils, .int .i64 0, .nils, .nils], .box (Con.zg (Tm.at_ n.1 n.2)), .box [.int .u8 0, .str (Array.toList #[]), .str (Array.toList #[]), .str (Array.toList #[]), .int .u8 0, .str (Array.toList #[]), .str (Array.toList #[]), .int .i64 0, .nils, .int .i64 0, .nils, .nils]])) (.ex (fun (x : Con) => eqL [(Con.conD (Tm.at_ n.1 n.2))] [(Con.conA x)] ∧ Con.big x < 274877906944) fun n_18 => .all (fun (x : Unit) => True) fun n_19 => .leaf (.ret [(Con.conD n_18), .int .i64 0] [.box [.str (Deal.long d), .str (Deal.short d), .str (Deal.ccy d), .str (Deal.name d), .str (Deal.zb d), .str (Deal.zf d)], .box (Con.zg n_18), .box (Con.zg n_18), .box (Con.zg (Tm.at_ n.1 n.2)), .box (Con.zg n_18)])))) (.ex (fun (x : Deal × Ex) => eqL [(Deal.av d), (exD (Tm.opx n.1 [n.2.1, n.2.2]))] [(Deal.av x.1), x.2.exA] ∧ True) fun n => .all (fun (x : Unit) => True) fun n_13 => .ex (fun (x : Int × Con) => eqL [AV.int .i64 day, (Con.conD (Con.mk (2 : Int) (Deal.short n.1) (Deal.long n.1) (Deal.ccy n.1) n.2 (0 : Int) [] []))] [AV.int .i64 x.1, (Con.conA x.2)] ∧ True) fun n => .all (fun (x : Unit) => True) fun n_14 => .ex (fun (x : Con) => eqL [(Con.conD (Tm.at_ n.1 n.2))] [(Con.conA x)] ∧ Con.big x < 1099511627776 ∧ Con.nodes x ≤ 1000000) fun n_15 => .all (fun (r : Int) => r = Con.errC n_15) fun n_16 => .ite (!decide (n_16 = 0)) (.leaf (.ret [.agg [.int .u8 0, .str (Array.toList #[]), .str (Array.toList #[]), .str (Array.toList #[]), .int .u8 0, .str (Array.toList #[]), .str (Array.toList #[]), .int .i64 0, .nils, .int .i64 0, .nils, .nils], .int .i64 n_16] [.box [.str (Deal.long d), .str (Deal.short d), .str (Deal.ccy d), .str (Deal.name d), .str (Deal.zb d), .str (Deal.zf d)], .box [.int .u8 0, .str (Array.toList #[]), .str (Array.toList #[]), .str (Array.toList #[]), .int .u8 0, .str (Array.toList #[]), .str (Array.toList #[]), .int .i64 0, .nils, .int .i64 0, .nils, .nils], .box [.int .u8 0, .str (Array.toList #[]), .str (Array.toList #[]), .str (Array.toList #[]), .int .u8 0, .str (Array.toList #[]), .str (Array.toList #[]), .int .i64 0, .nils, .int .i64 0, .nils, .nils], .box (Con.zg (Tm.at_ n.1 n.2)), .box [.int .u8 0, .str (Array.toList #[]), .str (Array.toList #[]), .str (Array.toList #[]), .int .u8 0, .str (Array.toList #[]), .str (Array.toList #[]), .int .i64 0, .nils, .int .i64 0, .nils, .nils]])) (.ex (fun (x : Con) => eqL [(Con.conD (Tm.at_ n.1 n.2))] [(Con.conA x)] ∧ Con.big x < 274877906944) fun n_17 => .all (fun (x : Unit) => True) fun n_18 => .leaf (.ret [(Con.conD n_17), .int .i64 0] [.box [.str (Deal.long d), .str (Deal.short d), .str (Deal.ccy d), .str (Deal.name d), .str (Deal.zb d), .str (Deal.zf d)], .box (Con.zg n_17), .box (Con.zg n_17), .box (Con.zg (Tm.at_ n.1 n.2)), .box (Con.zg n_17)])))) (.ex (fun (x : Int × Ex × Ex) => eqL [AV.int .u8 6, (exD (Tm.opx n.1 [n.2.1, n.2.2])), (exD (Tm.kon n_8))] [AV.int .u8 x.1, x.2.1.exA, x.2.2.exA] ∧ True) fun n => .all (fun (x : Unit) => True) fun n_11 => .ex (fun (x : Deal × Ex) => eqL [(Deal.av d), (exD (Tm.opx n.1 [n.2.1, n.2.2]))] [(Deal.av x.1), x.2.exA] ∧ True) fun n => .all (fun (x : Unit) => True) fun n_12 => .ex (fun (x : Int × Con) => eqL [AV.int .i64 day, (Con.conD (Con.mk (2 : Int) (Deal.short n.1) (Deal.long n.1) (Deal.ccy n.1) n.2 (0 : Int) [] []))] [AV.int .i64 x.1, (Con.conA x.2)] ∧ True) fun n => .all (fun (x : Unit) => True) fun n_13 => .ex (fun (x : Con) => eqL [(Con.conD (Tm.at_ n.1 n.2))] [(Con.conA x)] ∧ Con.big x < 1099511627776 ∧ Con.nodes x ≤ 1000000) fun n_14 => .all (fun (r : Int) => r = Con.errC n_14) fun n_15 => .ite (!decide (n_15 = 0)) (.leaf (.ret [.agg [.int .u8 0, .str (Array.toList #[]), .str (Array.toList #[]), .str (Array.toList #[]), .int .u8 0, .str (Array.toList #[]), .str (Array.toList #[]), .int .i64 0, .nils, .int .i64 0, .nils, .nils], .int .i64 n_15] [.box [.str (Deal.long d), .str (Deal.short d), .str (Deal.ccy d), .str (Deal.name d), .str (Deal.zb d), .str (Deal.zf d)], .box [.int .u8 0, .str (Array.toList #[]), .str (Array.toList #[]), .str (Array.toList #[]), .int .u8 0, .str (Array.toList #[]), .str (Array.toList #[]), .int .i64 0, .nils, .int .i64 0, .nils, .nils], .box [.int .u8 0, .str (Array.toList #[]), .str (Array.toList #[]), .str (Array.toList #[]), .int .u8 0, .str (Array.toList #[]), .str (Array.toList #[]), .int .i64 0, .nils, .int .i64 0, .nils, .nils], .box (Con.zg (Tm.at_ n.1 n.2)), .box [.int .u8 0, .str (Array.toList #[]), .str (Array.toList #[]), .str (Array.toList #[]), .int .u8 0, .str (Array.toList #[]), .str (Array.toList #[]), .int .i64 0, .nils, .int .i64 0, .nils, .nils]])) (.ex (fun (x : Con) => eqL [(Con.conD (Tm.at_ n.1 n.2))] [(Con.conA x)] ∧ Con.big x < 274877906944) fun n_16 => .all (fun (x : Unit) => True) fun n_17 => .leaf (.ret [(Con.conD n_16), .int .i64 0] [.box [.str (Deal.long d), .str (Deal.short d), .str (Deal.ccy d), .str (Deal.name d), .str (Deal.zb d), .str (Deal.zf d)], .box (Con.zg n_16), .box (Con.zg n_16), .box (Con.zg (Tm.at_ n.1 n.2)), .box (Con.zg n_16)])))) (.ex (fun (x : List UInt8) => eqL [AV.str (Deal.zf d)] [AV.str x] ∧ True) fun n_8 => .all (fun (x : Unit) => True) fun n_9 => .ex (fun (x : Int × Ex × Ex) => eqL [AV.int .u8 6, (exD (Tm.opx n.1 [n.2.1, n.2.2])), (exD (Tm.kon n_8))] [AV.int .u8 x.1, x.2.1.exA, x.2.2.exA] ∧ True) fun n => .all (fun (x : Unit) => True) fun n_10 => .ex (fun (x : Deal × Ex) => eqL [(Deal.av d), (exD (Tm.opx n.1 [n.2.1, n.2.2]))] [(Deal.av x.1), x.2.exA] ∧ True) fun n => .all (fun (x : Unit) => True) fun n_11 => .ex (fun (x : Int × Con) => eqL [AV.int .i64 day, (Con.conD (Con.mk (2 : Int) (Deal.short n.1) (Deal.long n.1) (Deal.ccy n.1) n.2 (0 : Int) [] []))] [AV.int .i64 x.1, (Con.conA x.2)] ∧ True) fun n => .all (fun (x : Unit) => True) fun n_12 => .ex (fun (x : Con) => eqL [(Con.conD (Tm.at_ n.1 n.2))] [(Con.conA x)] ∧ Con.big x < 1099511627776 ∧ Con.nodes x ≤ 1000000) fun n_13 => .all (fun (r : Int) => r = Con.errC n_13) fun n_14 => .ite (!decide (n_14 = 0)) (.leaf (.ret [.agg [.int .u8 0, .str (Array.toList #[]), .str (Array.toList #[]), .str (Array.toList #[]), .int .u8 0, .str (Array.toList #[]), .str (Array.toList #[]), .int .i64 0, .nils, .int .i64 0, .nils, .nils], .int .i64 n_14] [.box [.str (Deal.long d), .str (Deal.short d), .str (Deal.ccy d), .str (Deal.name d), .str (Deal.zb d), .str (Deal.zf d)], .box [.int .u8 0, .str (Array.toList #[]), .str (Array.toList #[]), .str (Array.toList #[]), .int .u8 0, .str (Array.toList #[]), .str (Array.toList #[]), .int .i64 0, .nils, .int .i64 0, .nils, .nils], .box [.int .u8 0, .str (Array.toList #[]), .str (Array.toList #[]), .str (Array.toList #[]), .int .u8 0, .str (Array.toList #[]), .str (Array.toList #[]), .int .i64 0, .nils, .int .i64 0, .nils, .nils], .box (Con.zg (Tm.at_ n.1 n.2)), .box [.int .u8 0, .str (Array.toList #[]), .str (Array.toList #[]), .str (Array.toList #[]), .int .u8 0, .str (Array.toList #[]), .str (Array.toList #[]), .int .i64 0, .nils, .int .i64 0, .nils, .nils]])) (.ex (fun (x : Con) => eqL [(Con.conD (Tm.at_ n.1 n.2))] [(Con.conA x)] ∧ Con.big x < 274877906944) fun n_15 => .all (fun (x : Unit) => True) fun n_16 => .leaf (.ret [(Con.conD n_15), .int .i64 0] [.box [.str (Deal.long d), .str (Deal.short d), .str (Deal.ccy d), .str (Deal.name d), .str (Deal.zb d), .str (Deal.zf d)], .box (Con.zg n_15), .box (Con.zg n_15), .box (Con.zg (Tm.at_ n.1 n.2)), .box (Con.zg n_15)])))) (.ex (fun (x : Int × Ex × Ex) => eqL [AV.int .u8 5, (exD (Tm.spot n)), (exD (Tm.kon n_3))] [AV.int .u8 x.1, x.2.1.exA, x.2.2.exA] ∧ True) fun n => .all (fun (x : Unit) => True) fun n_6 => .ex (fun (x : List UInt8) => eqL [AV.str (Deal.zf d)] [AV.str x] ∧ True) fun n_7 => .all (fun (x : Unit) => True) fun n_8 => .ex (fun (x : Int × Ex × Ex) => eqL [AV.int .u8 6, (exD (Tm.opx n.1 [n.2.1, n.2.2])), (exD (Tm.kon n_7))] [AV.int .u8 x.1, x.2.1.exA, x.2.2.exA] ∧ True) fun n => .all (fun (x : Unit) => True) fun n_9 => .ex (fun (x : Deal × Ex) => eqL [(Deal.av d), (exD (Tm.opx n.1 [n.2.1, n.2.2]))] [(Deal.av x.1), x.2.exA] ∧ True) fun n => .all (fun (x : Unit) => True) fun n_10 => .ex (fun (x : Int × Con) => eqL [AV.int .i64 day, (Con.conD (Con.mk (2 : Int) (Deal.short n.1) (Deal.long n.1) (Deal.ccy n.1) n.2 (0 : Int) [] []))] [AV.int .i64 x.1, (Con.conA x.2)] ∧ True) fun n => .all (fun (x : Unit) => True) fun n_11 => .ex (fun (x : Con) => eqL [(Con.conD (Tm.at_ n.1 n.2))] [(Con.conA x)] ∧ Con.big x < 1099511627776 ∧ Con.nodes x ≤ 1000000) fun n_12 => .all (fun (r : Int) => r = Con.errC n_12) fun n_13 => .ite (!decide (n_13 = 0)) (.leaf (.ret [.agg [.int .u8 0, .str (Array.toList #[]), .str (Array.toList #[]), .str (Array.toList #[]), .int .u8 0, .str (Array.toList #[]), .str (Array.toList #[]), .int .i64 0, .nils, .int .i64 0, .nils, .nils], .int .i64 n_13] [.box [.str (Deal.long d), .str (Deal.short d), .str (Deal.ccy d), .str (Deal.name d), .str (Deal.zb d), .str (Deal.zf d)], .box [.int .u8 0, .str (Array.toList #[]), .str (Array.toList #[]), .str (Array.toList #[]), .int .u8 0, .str (Array.toList #[]), .str (Array.toList #[]), .int .i64 0, .nils, .int .i64 0, .nils, .nils], .box [.int .u8 0, .str (Array.toList #[]), .str (Array.toList #[]), .str (Array.toList #[]), .int .u8 0, .str (Array.toList #[]), .str (Array.toList #[]), .int .i64 0, .nils, .int .i64 0, .nils, .nils], .box (Con.zg (Tm.at_ n.1 n.2)), .box [.int .u8 0, .str (Array.toList #[]), .str (Array.toList #[]), .str (Array.toList #[]), .int .u8 0, .str (Array.toList #[]), .str (Array.toList #[]), .int .i64 0, .nils, .int .i64 0, .nils, .nils]])) (.ex (fun (x : Con) => eqL [(Con.conD (Tm.at_ n.1 n.2))] [(Con.conA x)] ∧ Con.big x < 274877906944) fun n_14 => .all (fun (x : Unit) => True) fun n_15 => .leaf (.ret [(Con.conD n_14), .int .i64 0] [.box [.str (Deal.long d), .str (Deal.short d), .str (Deal.ccy d), .str (Deal.name d), .str (Deal.zb d), .str (Deal.zf d)], .box (Con.zg n_14), .box (Con.zg n_14), .box (Con.zg (Tm.at_ n.1 n.2)), .box (Con.zg n_14)])))) (.ex (fun (x : List UInt8) => eqL [AV.str (Deal.zb d)] [AV.str x] ∧ True) fun n_3 => .all (fun (x : Unit) => True) fun n_4 => .ex (fun (x : Int × Ex × Ex) => eqL [AV.int .u8 5, (exD (Tm.spot n)), (exD (Tm.kon n_3))] [AV.int .u8 x.1, x.2.1.exA, x.2.2.exA] ∧ True) fun n => .all (fun (x : Unit) => True) fun n_5 => .ex (fun (x : List UInt8) => eqL [AV.str (Deal.zf d)] [AV.str x] ∧ True) fun n_6 => .all (fun (x : Unit) => True) fun n_7 => .ex (fun (x : Int × Ex × Ex) => eqL [AV.int .u8 6, (exD (Tm.opx n.1 [n.2.1, n.2.2])), (exD (Tm.kon n_6))] [AV.int .u8 x.1, x.2.1.exA, x.2.2.exA] ∧ True) fun n => .all (fun (x : Unit) => True) fun n_8 => .ex (fun (x : Deal × Ex) => eqL [(Deal.av d), (exD (Tm.opx n.1 [n.2.1, n.2.2]))] [(Deal.av x.1), x.2.exA] ∧ True) fun n => .all (fun (x : Unit) => True) fun n_9 => .ex (fun (x : Int × Con) => eqL [AV.int .i64 day, (Con.conD (Con.mk (2 : Int) (Deal.short n.1) (Deal.long n.1) (Deal.ccy n.1) n.2 (0 : Int) [] []))] [AV.int .i64 x.1, (Con.conA x.2)] ∧ True) fun n => .all (fun (x : Unit) => True) fun n_10 => .ex (fun (x : Con) => eqL [(Con.conD (Tm.at_ n.1 n.2))] [(Con.conA x)] ∧ Con.big x < 1099511627776 ∧ Con.nodes x ≤ 1000000) fun n_11 => .all (fun (r : Int) => r = Con.errC n_11) fun n_12 => .ite (!decide (n_12 = 0)) (.leaf (.ret [.agg [.int .u8 0, .str (Array.toList #[]), .str (Array.toList #[]), .str (Array.toList #[]), .int .u8 0, .str (Array.toList #[]), .str (Array.toList #[]), .int .i64 0, .nils, .int .i64 0, .nils, .nils], .int .i64 n_12] [.box [.str (Deal.long d), .str (Deal.short d), .str (Deal.ccy d), .str (Deal.name d), .str (Deal.zb d), .str (Deal.zf d)], .box [.int .u8 0, .str (Array.toList #[]), .str (Array.toList #[]), .str (Array.toList #[]), .int .u8 0, .str (Array.toList #[]), .str (Array.toList #[]), .int .i64 0, .nils, .int .i64 0, .nils, .nils], .box [.int .u8 0, .str (Array.toList #[]), .str (Array.toList #[]), .str (Array.toList #[]), .int .u8 0, .str (Array.toList #[]), .str (Array.toList #[]), .int .i64 0, .nils, .int .i64 0, .nils, .nils], .box (Con.zg (Tm.at_ n.1 n.2)), .box [.int .u8 0, .str (Array.toList #[]), .str (Array.toList #[]), .str (Array.toList #[]), .int .u8 0, .str (Array.toList #[]), .str (Array.toList #[]), .int .i64 0, .nils, .int .i64 0, .nils, .nils]])) (.ex (fun (x : Con) => eqL [(Con.conD (Tm.at_ n.1 n.2))] [(Con.conA x)] ∧ Con.big x < 274877906944) fun n_13 => .all (fun (x : Unit) => True) fun n_14 => .leaf (.ret [(Con.conD n_13), .int .i64 0] [.box [.str (Deal.long d), .str (Deal.short d), .str (Deal.ccy d), .str (Deal.name d), .str (Deal.zb d), .str (Deal.zf d)], .box (Con.zg n_13), .box (Con.zg n_13), .box (Con.zg (Tm.at_ n.1 n.2)), .box (Con.zg n_13)])))) (.ex (fun (x : List UInt8) => eqL [AV.str (Deal.name d)] [AV.str x] ∧ True) fun n => .all (fun (x : Unit) => True) fun n_1 => .ex (fun (x : List UInt8) => eqL [AV.str (Deal.zb d)] [AV.str x] ∧ True) fun n_2 => .all (fun (x : Unit) => True) fun n_3 => .ex (fun (x : Int × Ex × Ex) => eqL [AV.int .u8 5, (exD (Tm.spot n)), (exD (Tm.kon n_2))] [AV.int .u8 x.1, x.2.1.exA, x.2.2.exA] ∧ True) fun n => .all (fun (x : Unit) => True) fun n_4 => .ex (fun (x : List UInt8) => eqL [AV.str (Deal.zf d)] [AV.str x] ∧ True) fun n_5 => .all (fun (x : Unit) => True) fun n_6 => .ex (fun (x : Int × Ex × Ex) => eqL [AV.int .u8 6, (exD (Tm.opx n.1 [n.2.1, n.2.2])), (exD (Tm.kon n_5))] [AV.int .u8 x.1, x.2.1.exA, x.2.2.exA] ∧ True) fun n => .all (fun (x : Unit) => True) fun n_7 => .ex (fun (x : Deal × Ex) => eqL [(Deal.av d), (exD (Tm.opx n.1 [n.2.1, n.2.2]))] [(Deal.av x.1), x.2.exA] ∧ True) fun n => .all (fun (x : Unit) => True) fun n_8 => .ex (fun (x : Int × Con) => eqL [AV.int .i64 day, (Con.conD (Con.mk (2 : Int) (Deal.short n.1) (Deal.long n.1) (Deal.ccy n.1) n.2 (0 : Int) [] []))] [AV.int .i64 x.1, (Con.conA x.2)] ∧ True) fun n => .all (fun (x : Unit) => True) fun n_9 => .ex (fun (x : Con) => eqL [(Con.conD (Tm.at_ n.1 n.2))] [(Con.conA x)] ∧ Con.big x < 1099511627776 ∧ Con.nodes x ≤ 1000000) fun n_10 => .all (fun (r : Int) => r = Con.errC n_10) fun n_11 => .ite (!decide (n_11 = 0)) (.leaf (.ret [.agg [.int .u8 0, .str (Array.toList #[]), .str (Array.toList #[]), .str (Array.toList #[]), .int .u8 0, .str (Array.toList #[]), .str (Array.toList #[]), .int .i64 0, .nils, .int .i64 0, .nils, .nils], .int .i64 n_11] [.box [.str (Deal.long d), .str (Deal.short d), .str (Deal.ccy d), .str (Deal.name d), .str (Deal.zb d), .str (Deal.zf d)], .box [.int .u8 0, .str (Array.toList #[]), .str (Array.toList #[]), .str (Array.toList #[]), .int .u8 0, .str (Array.toList #[]), .str (Array.toList #[]), .int .i64 0, .nils, .int .i64 0, .nils, .nils], .box [.int .u8 0, .str (Array.toList #[]), .str (Array.toList #[]), .str (Array.toList #[]), .int .u8 0, .str (Array.toList #[]), .str (Array.toList #[]), .int .i64 0, .nils, .int .i64 0, .nils, .nils], .box (Con.zg (Tm.at_ n.1 n.2)), .box [.int .u8 0, .str (Array.toList #[]), .str (Array.toList #[]), .str (Array.toList #[]), .int .u8 0, .str (Array.toList #[]), .str (Array.toList #[]), .int .i64 0, .nils, .int .i64 0, .nils, .nils]])) (.ex (fun (x : Con) => eqL [(Con.conD (Tm.at_ n.1 n.2))] [(Con.conA x)] ∧ Con.big x < 274877906944) fun n_12 => .all (fun (x : Unit) => True) fun n_13 => .leaf (.ret [(Con.conD n_12), .int .i64 0] [.box [.str (Deal.long d), .str (Deal.short d), .str (Deal.ccy d), .str (Deal.name d), .str (Deal.zb d), .str (Deal.zf d)], .box (Con.zg n_12), .box (Con.zg n_12), .box (Con.zg (Tm.at_ n.1 n.2)), .box (Con.zg n_12)]))))) (by kernel_rfl) ?_
 simp only [Tree.holds, ze]
 refine ⟨d, ⟨⟨⟨rfl, rfl, rfl, rfl, rfl, rfl, trivial⟩, trivial⟩, hp⟩, ⟨_, rfl⟩, ?_⟩
 rintro _ rfl
 refine ⟨fun h => ?_, fun h => ?_⟩
 ·exact RetR.out0 (kC hq (by simpa using h)) (fun h => by cases h) zero_eq
 have he : Tm.first 0 [d.zb, d.zf] = 0 := by simpa using h
 have hq2 := xb hq he
 have hq3 := y7 hq he
 clear hq
 have hn : (Tm.fwd d day).nodes ≤ 1000000 := by simp [Tm.fwd, Tm.at_, Tm.pay, Con.nodes, Con.qH]
 repeat' apply qW
 all_goals refine ⟨d.name, ⟨⟨rfl, trivial⟩, trivial⟩, ⟨(), trivial⟩, fun _ _ => ?_⟩
 all_goals repeat' apply qW
 all_goals refine ⟨d.zb, ⟨⟨rfl, trivial⟩, trivial⟩, ⟨(), trivial⟩, fun _ _ => ?_⟩
 all_goals repeat' apply qW
 all_goals refine ⟨(5, Tm.spot d.name, Tm.kon d.zb), ⟨⟨⟨rfl, rfl⟩, zT _, zT _, trivial⟩, trivial⟩, ⟨(), trivial⟩, fun _ _ => ?_⟩
 all_goals repeat' apply qW
 all_goals refine ⟨d.zf, ⟨⟨rfl, trivial⟩, trivial⟩, ⟨(), trivial⟩, fun _ _ => ?_⟩
 all_goals repeat' apply qW
 all_goals refine ⟨(6, Tm.opx 5 [Tm.spot d.name, Tm.kon d.zb], Tm.kon d.zf), ⟨⟨⟨rfl, rfl⟩, zT _, zT _, trivial⟩, trivial⟩, ⟨(), trivial⟩, fun _ _ => ?_⟩
 all_goals repeat' apply qW
 all_goals refine ⟨(d, Tm.opx 6 [Tm.opx 5 [Tm.spot d.name, Tm.kon d.zb], Tm.kon d.zf]), ⟨⟨⟨rfl, rfl, rfl, rfl, rfl, rfl, trivial⟩, zT _, trivial⟩, trivial⟩, ⟨(), trivial⟩, fun _ _ => ?_⟩
 all_goals repeat' apply qW
 all_goals refine ⟨(day, Tm.pay d (Tm.opx 5 [Tm.spot d.name, Tm.kon d.zb]) d.zf), ⟨⟨⟨rfl, rfl⟩, zD _, trivial⟩, trivial⟩, ⟨(), trivial⟩, fun _ _ => ?_⟩
 all_goals repeat' apply qW
 all_goals
  refine ⟨Tm.fwd d day, ⟨⟨zD (Tm.fwd d day), trivial⟩, by omega, hn⟩, ⟨_, rfl⟩, ?_⟩
  rintro _ rfl
  refine ⟨fun h1 => RetR.out0 (hq2 (by simpa using h1)) (fun h => by cases h) zero_eq, fun h1 => ?_⟩
  refine ⟨Tm.fwd d day, ⟨⟨zD (Tm.fwd d day), trivial⟩, by omega⟩, ⟨(), trivial⟩, fun _ _ => ?_⟩
  repeat' apply qW
  all_goals exact RetR.le0 (hq3 (by simpa using h1)) (fun h => by cases h) (LeA.refl _)
def rpoC : Ctr := { ctrP false (fun p : Deal × Bool => [p.1.av, .bool p.2]) (fun _ => True) (fun _ (_ : Unit) => True) (fun p _ => ((Tm.pay p.1 (Tm.over p.1.zb (Tm.spot p.1.name) p.2) p.1.zf).conD, [])) with sinks := true }
theorem zgs : zd Tryz.prog 153 rpoC := by
 refine zd.sink (zk (fn := Tryz.f153) (c := Tryz.f153.body.getD .skip) rfl rfl rfl fun p hp O w0 Q hq => ?_)
 obtain ⟨d, put⟩ := p
 replace hq := hq () trivial
 simp only at hq
 refine zc.run hmix Yc [] 400 (T := .ex (fun (x : List UInt8) => eqL [AV.str (Deal.name d)] [AV.str x] ∧ True) fun n => .all (fun (x : Unit) => True) fun n_1 => .ex (fun (x : List UInt8) => eqL [AV.str (Deal.zb d)] [AV.str x] ∧ True) fun n_2 => .all (fun (x : Unit) => True) fun n_3 => .ex (fun (x : Ex × Ex × Bool) => eqL [(exD (Tm.spot n)), (exD (Tm.kon n_2)), AV.bool put] [x.1.exA, x.2.1.exA, AV.bool x.2.2] ∧ True) fun n => .all (fun (x : Unit) => True) fun n_4 => .ex (fun (x : List UInt8) => eqL [AV.str (Deal.zf d)] [AV.str x] ∧ True) fun n_5 => .all (fun (x : Unit) => True) fun n_6 => .ex (fun (x : Int × Ex × Ex) => eqL [AV.int .u8 6, (exD (zat n.1 n.2.1 n.2.2)), (exD (Tm.kon n_5))] [AV.int .u8 x.1, x.2.1.exA, x.2.2.exA] ∧ True) fun n => .all (fun (x : Unit) => True) fun n_7 => .ex (fun (x : Deal × Ex) => eqL [(Deal.av d), (exD (Tm.opx n.1 [n.2.1, n.2.2]))] [(Deal.av x.1), x.2.exA] ∧ True) fun n => .all (fun (x : Unit) => True) fun n_8 => .leaf (.ret [(Con.conD (Con.mk (2 : Int) (Deal.short n.1) (Deal.long n.1) (Deal.ccy n.1) n.2 (0 : Int) [] []))] [.box [.str (Deal.long d), .str (Deal.short d), .str (Deal.ccy d), .str (Deal.name d), .str (Deal.zb d), .str (Deal.zf d)], .box (Con.zg (Con.mk (2 : Int) (Deal.short n.1) (Deal.long n.1) (Deal.ccy n.1) n.2 (0 : Int) [] []))])) (by kernel_rfl) ?_
 simp only [Tree.holds, ze]
 repeat' apply qW
 all_goals refine ⟨d.name, ⟨⟨rfl, trivial⟩, trivial⟩, ⟨(), trivial⟩, fun _ _ => ?_⟩
 all_goals repeat' apply qW
 all_goals refine ⟨d.zb, ⟨⟨rfl, trivial⟩, trivial⟩, ⟨(), trivial⟩, fun _ _ => ?_⟩
 all_goals repeat' apply qW
 all_goals refine ⟨(Tm.spot d.name, Tm.kon d.zb, put), ⟨⟨zT _, zT _, rfl, trivial⟩, trivial⟩, ⟨(), trivial⟩, fun _ _ => ?_⟩
 all_goals repeat' apply qW
 all_goals refine ⟨d.zf, ⟨⟨rfl, trivial⟩, trivial⟩, ⟨(), trivial⟩, fun _ _ => ?_⟩
 all_goals repeat' apply qW
 all_goals refine ⟨(6, Tm.over d.zb (Tm.spot d.name) put, Tm.kon d.zf), ⟨⟨⟨rfl, rfl⟩, zT _, zT _, trivial⟩, trivial⟩, ⟨(), trivial⟩, fun _ _ => ?_⟩
 all_goals repeat' apply qW
 all_goals refine ⟨(d, Tm.opx 6 [Tm.over d.zb (Tm.spot d.name) put, Tm.kon d.zf]), ⟨⟨⟨rfl, rfl, rfl, rfl, rfl, rfl, trivial⟩, zT _, trivial⟩, trivial⟩, ⟨(), trivial⟩, fun _ _ => ?_⟩
 all_goals repeat' apply qW
 all_goals exact RetR.le0 hq (fun h => by cases h) (LeA.refl _)
noncomputable def GRpo : Nat → Option Ctr := fun f => if f = 145 then some (Kr) else if f = 146 then some (Qb) else if f = 147 then some (ronC) else if f = 153 then some (rpoC) else none
theorem Y4 : ∀ g c, GRpo g = some c → zd Tryz.prog g c := okIf VK (okIf uA (okIf za2 (okIf zgs (zx))))
theorem X9 : zd Tryz.prog 58 uS := by
 refine zk (fn := Tryz.f58) (c := Tryz.f58.body.getD .skip) rfl rfl rfl fun p hp O w0 Q hq => ?_
 obtain ⟨d, day, put⟩ := p
 replace hq := hq () trivial
 replace hp : Tm.fits d := hp
 simp only at hq
 have hbig := Tm.Ws (day := day) (put := put) hp
 refine zc.run hmix Y4 [] 400 (T := .ex (fun (x : Deal) => eqL [(Deal.av d)] [(Deal.av x)] ∧ Tm.fits x) fun n => .all (fun (r : Int) => r = Tm.first (0 : Int) [Deal.zb n, Deal.zf n]) fun n => .ite (!decide (n = 0)) (.leaf (.ret [.agg [.int .u8 0, .str (Array.toList #[]), .str (Array.toList #[]), .str (Array.toList #[]), .int .u8 0, .str (Array.toList #[]), .str (Array.toList #[]), .int .i64 0, .nils, .int .i64 0, .nils, .nils], .int .i64 n] [.box [.str (Deal.long d), .str (Deal.short d), .str (Deal.ccy d), .str (Deal.name d), .str (Deal.zb d), .str (Deal.zf d)], .box [.int .u8 0, .str (Array.toList #[]), .str (Array.toList #[]), .str (Array.toList #[]), .int .u8 0, .str (Array.toList #[]), .str (Array.toList #[]), .int .i64 0, .nils, .int .i64 0, .nils, .nils]])) (.ex (fun (x : Deal × Bool) => eqL [(Deal.av d), AV.bool put] [(Deal.av x.1), AV.bool x.2] ∧ True) fun n => .all (fun (x : Unit) => True) fun n_1 => .ex (fun (x : Int × Con) => eqL [AV.int .i64 day, (Con.conD (Tm.pay n.1 (Tm.over (Deal.zb n.1) (Tm.spot (Deal.name n.1)) n.2) (Deal.zf n.1)))] [AV.int .i64 x.1, (Con.conA x.2)] ∧ True) fun n => .all (fun (x : Unit) => True) fun n_2 => .ex (fun (x : Con) => eqL [(Con.conD (Tm.at_ n.1 n.2))] [(Con.conA x)] ∧ Con.big x < 1099511627776 ∧ Con.nodes x ≤ 1000000) fun n_3 => .all (fun (r : Int) => r = Con.errC n_3) fun n_4 => .ite (!decide (n_4 = 0)) (.leaf (.ret [.agg [.int .u8 0, .str (Array.toList #[]), .str (Array.toList #[]), .str (Array.toList #[]), .int .u8 0, .str (Array.toList #[]), .str (Array.toList #[]), .int .i64 0, .nils, .int .i64 0, .nils, .nils], .int .i64 n_4] [.box [.str (Deal.long d), .str (Deal.short d), .str (Deal.ccy d), .str (Deal.name d), .str (Deal.zb d), .str (Deal.zf d)], .box [.int .u8 0, .str (Array.toList #[]), .str (Array.toList #[]), .str (Array.toList #[]), .int .u8 0, .str (Array.toList #[]), .str (Array.toList #[]), .int .i64 0, .nils, .int .i64 0, .nils, .nils], .box (Con.zg (Tm.at_ n.1 n.2)), .box [.int .u8 0, .str (Array.toList #[]), .str (Array.toList #[]), .str (Array.toList #[]), .int .u8 0, .str (Array.toList #[]), .str (Array.toList #[]), .int .i64 0, .nils, .int .i64 0, .nils, .nils], .box [.int .u8 0, .str (Array.toList #[]), .str (Array.toList #[]), .str (Array.toList #[]), .int .u8 0, .str (Array.toList #[]), .str (Array.toList #[]), .int .i64 0, .nils, .int .i64 0, .nils, .nils]])) (.ex (fun (x : Con) => eqL [(Con.conD (Tm.at_ n.1 n.2))] [(Con.conA x)] ∧ Con.big x < 274877906944) fun n_5 => .all (fun (x : Unit) => True) fun n_6 => .leaf (.ret [(Con.conD n_5), .int .i64 0] [.box [.str (Deal.long d), .str (Deal.short d), .str (Deal.ccy d), .str (Deal.name d), .str (Deal.zb d), .str (Deal.zf d)], .box (Con.zg n_5), .box (Con.zg (Tm.at_ n.1 n.2)), .box (Con.zg n_5), .box (Con.zg n_5)])))) (by kernel_rfl) ?_
 simp only [Tree.holds, ze]
 refine ⟨d, ⟨⟨⟨rfl, rfl, rfl, rfl, rfl, rfl, trivial⟩, trivial⟩, hp⟩, ⟨_, rfl⟩, ?_⟩
 rintro _ rfl
 refine ⟨fun h => ?_, fun h => ?_⟩
 ·exact RetR.out0 (kC hq (by simpa using h)) (fun h => by cases h) zero_eq
 have he : Tm.first 0 [d.zb, d.zf] = 0 := by simpa using h
 have hq2 := xb hq he
 have hq3 := y7 hq he
 clear hq
 have hn : (Tm.pff d day put).nodes ≤ 1000000 := by simp [Tm.pff, Tm.at_, Tm.pay, Con.nodes, Con.qH]
 repeat' apply qW
 all_goals refine ⟨(d, put), ⟨⟨⟨rfl, rfl, rfl, rfl, rfl, rfl, trivial⟩, rfl, trivial⟩, trivial⟩, ⟨(), trivial⟩, fun _ _ => ?_⟩
 all_goals repeat' apply qW
 all_goals refine ⟨(day, Tm.pay d (Tm.over d.zb (Tm.spot d.name) put) d.zf), ⟨⟨⟨rfl, rfl⟩, zD _, trivial⟩, trivial⟩, ⟨(), trivial⟩, fun _ _ => ?_⟩
 all_goals repeat' apply qW
 all_goals
  refine ⟨Tm.pff d day put, ⟨⟨zD (Tm.pff d day put), trivial⟩, by omega, hn⟩, ⟨_, rfl⟩, ?_⟩
  rintro _ rfl
  refine ⟨fun h1 => RetR.out0 (hq2 (by simpa using h1)) (fun h => by cases h) zero_eq, fun h1 => ?_⟩
  refine ⟨Tm.pff d day put, ⟨⟨zD (Tm.pff d day put), trivial⟩, by omega⟩, ⟨(), trivial⟩, fun _ _ => ?_⟩
  repeat' apply qW
  all_goals exact RetR.le0 (hq3 (by simpa using h1)) (fun h => by cases h) (LeA.refl _)
def Vl : Ctr := ctrP false (fun p : OptA => [p.d.av, .str p.ch, Con.dayS p.days, .bool p.put]) (fun p => Tm.fits p.d ∧ p.ch.length ≤ 200 ∧ p.days.length ≤ 200) (fun p (_ : Unit) => True) (fun p _ => (.tup [(Tm.out (Tm.res p.d p.con) p.con).conD, .int .i64 (Tm.res p.d p.con)], []))
theorem KW : zd Tryz.prog 60 Vl := by
 refine zk (fn := Tryz.f60) (c := Tryz.f60.body.getD .skip) rfl rfl rfl fun p hp O w0 Q hq => ?_
 obtain ⟨d, ch, days, put⟩ := p
 replace hq := hq () trivial
 replace hp : Tm.fits d ∧ ch.length ≤ 200 ∧ days.length ≤ 200 := hp
 simp only [OptA.con] at hq
 have hbig := Tm.uY (ch := ch) (days := days) (put := put) hp.1 hp.2.1 hp.2.2
 replace hp := hp.1
 refine zc.run hmix Y4 [] 400 (T := .ex (fun (x : Deal) => eqL [(Deal.av d)] [(Deal.av x)] ∧ Tm.fits x) fun n => .all (fun (r : Int) => r = Tm.first (0 : Int) [Deal.zb n, Deal.zf n]) fun n => .ite (!decide (n = 0)) (.leaf (.ret [.agg [.int .u8 0, .str (Array.toList #[]), .str (Array.toList #[]), .str (Array.toList #[]), .int .u8 0, .str (Array.toList #[]), .str (Array.toList #[]), .int .i64 0, .nils, .int .i64 0, .nils, .nils], .int .i64 n] [.box [.str (Deal.long d), .str (Deal.short d), .str (Deal.ccy d), .str (Deal.name d), .str (Deal.zb d), .str (Deal.zf d)], .box [.int .u8 0, .str (Array.toList #[]), .str (Array.toList #[]), .str (Array.toList #[]), .int .u8 0, .str (Array.toList #[]), .str (Array.toList #[]), .int .i64 0, .nils, .int .i64 0, .nils, .nils]])) (.all (fun (x : Bool) => True) fun n => .ite n (.ex (fun (x : Deal × Bool) => eqL [(Deal.av d), AV.bool put] [(Deal.av x.1), AV.bool x.2] ∧ True) fun n => .all (fun (x : Unit) => True) fun n_1 => .all (fun (x : Bool) => True) fun n_2 => .ite n_2 (.all (fun (x : Bool) => True) fun n_3 => .ite n_3 (.ex (fun (x : Con) => eqL [AV.agg [AV.int .u8 8, AV.str (Deal.long d), AV.str (Array.toList #[]), AV.str ch, AV.int .u8 0, AV.str (Array.toList #[]), AV.str (Array.toList #[]), AV.int .i64 0, AV.nils, AV.int .i64 0, AV.sl days.length 1 (Con.dayG days), AV.sl 1 12 (zi (zj 12 (Con.zg (Tm.pay n.1 (Tm.over (Deal.zb n.1) (Tm.spot (Deal.name n.1)) n.2) (Deal.zf n.1)))) 0)]] [(Con.conA x)] ∧ Con.big x < 1099511627776 ∧ Con.nodes x ≤ 1000000) fun n_4 => .all (fun (r : Int) => r = Con.errC n_4) fun n_5 => .ite (!decide (n_5 = 0)) (.leaf (.ret [.agg [.int .u8 0, .str (Array.toList #[]), .str (Array.toList #[]), .str (Array.toList #[]), .int .u8 0, .str (Array.toList #[]), .str (Array.toList #[]), .int .i64 0, .nils, .int .i64 0, .nils, .nils], .int .i64 n_5] [.box [.str (Deal.long d), .str (Deal.short d), .str (Deal.ccy d), .str (Deal.name d), .str (Deal.zb d), .str (Deal.zf d)], .box [.int .u8 0, .str (Array.toList #[]), .str (Array.toList #[]), .str (Array.toList #[]), .int .u8 0, .str (Array.toList #[]), .str (Array.toList #[]), .int .i64 0, .nils, .int .i64 0, .nils, .nils], .dead, .box [.int .u8 8, .str (Deal.long d), .str (Array.toList #[]), .str ch, .int .u8 0, .str (Array.toList #[]), .str (Array.toList #[]), .int .i64 0, .nils, .int .i64 0, .sl days.length 1 (Con.dayG days), .sl 1 12 (zi (zj 12 (Con.zg (Tm.pay n.1 (Tm.over (Deal.zb n.1) (Tm.spot (Deal.name n.1)) n.2) (Deal.zf n.1)))) 0)], .box [.int .u8 0, .str (Array.toList #[]), .str (Array.toList #[]), .str (Array.toList #[]), .int .u8 0, .str (Array.toList #[]), .str (Array.toList #[]), .int .i64 0, .nils, .int .i64 0, .nils, .nils], .box [.int .u8 0, .str (Array.toList #[]), .str (Array.toList #[]), .str (Array.toList #[]), .int .u8 0, .str (Array.toList #[]), .str (Array.toList #[]), .int .i64 0, .nils, .int .i64 0, .nils, .nils]])) (.ex (fun (x : Con) => eqL [AV.agg [AV.int .u8 8, AV.str (Deal.long d), AV.str (Array.toList #[]), AV.str ch, AV.int .u8 0, AV.str (Array.toList #[]), AV.str (Array.toList #[]), AV.int .i64 0, AV.nils, AV.int .i64 0, AV.sl days.length 1 (Con.dayG days), AV.sl 1 12 (zi (zj 12 (Con.zg (Tm.pay n.1 (Tm.over (Deal.zb n.1) (Tm.spot (Deal.name n.1)) n.2) (Deal.zf n.1)))) 0)]] [(Con.conA x)] ∧ Con.big x < 274877906944) fun n_6 => .all (fun (x : Unit) => True) fun n_7 => .leaf (.ret [(Con.conD n_6), .int .i64 0] [.box [.str (Deal.long d), .str (Deal.short d), .str (Deal.ccy d), .str (Deal.name d), .str (Deal.zb d), .str (Deal.zf d)], .box (Con.zg n_6), .dead, .box [.int .u8 8, .str (Deal.long d), .str (Array.toList #[]), .str ch, .int .u8 0, .str (Array.toList #[]), .str (Array.toList #[]), .int .i64 0, .nils, .int .i64 0, .sl days.length 1 (Con.dayG days), .sl 1 12 (zi (zj 12 (Con.zg (Tm.pay n.1 (Tm.over (Deal.zb n.1) (Tm.spot (Deal.name n.1)) n.2) (Deal.zf n.1)))) 0)], .box (Con.zg n_6), .box (Con.zg n_6)]))) (.ex (fun (x : Con) => eqL [AV.agg [AV.int .u8 8, AV.str (Deal.long d), AV.str (Array.toList #[]), AV.str ch, AV.int .u8 0, AV.str (Array.toList #[]), AV.str (Array.toList #[]), AV.int .i64 0, AV.nils, AV.int .i64 0, AV.sl days.length 1 (Con.dayG days), AV.sl 1 12 (zi (zj 12 (Con.zg (Tm.pay n.1 (Tm.over (Deal.zb n.1) (Tm.spot (Deal.name n.1)) n.2) (Deal.zf n.1)))) 0)]] [(Con.conA x)] ∧ Con.big x < 1099511627776 ∧ Con.nodes x ≤ 1000000) fun n_4 => .all (fun (r : Int) => r = Con.errC n_4) fun n_5 => .ite (!decide (n_5 = 0)) (.leaf (.ret [.agg [.int .u8 0, .str (Array.toList #[]), .str (Array.toList #[]), .str (Array.toList #[]), .int .u8 0, .str (Array.toList #[]), .str (Array.toList #[]), .int .i64 0, .nils, .int .i64 0, .nils, .nils], .int .i64 n_5] [.box [.str (Deal.long d), .str (Deal.short d), .str (Deal.ccy d), .str (Deal.name d), .str (Deal.zb d), .str (Deal.zf d)], .box [.int .u8 0, .str (Array.toList #[]), .str (Array.toList #[]), .str (Array.toList #[]), .int .u8 0, .str (Array.toList #[]), .str (Array.toList #[]), .int .i64 0, .nils, .int .i64 0, .nils, .nils], .dead, .box [.int .u8 0, .str (Array.toList #[]), .str (Array.toList #[]), .str (Array.toList #[]), .int .u8 0, .str (Array.toList #[]), .str (Array.toList #[]), .int .i64 0, .nils, .int .i64 0, .nils, .nils], .box [.int .u8 8, .str (Deal.long d), .str (Array.toList #[]), .str ch, .int .u8 0, .str (Array.toList #[]), .str (Array.toList #[]), .int .i64 0, .nils, .int .i64 0, .sl days.length 1 (Con.dayG days), .sl 1 12 (zi (zj 12 (Con.zg (Tm.pay n.1 (Tm.over (Deal.zb n.1) (Tm.spot (Deal.name n.1)) n.2) (Deal.zf n.1)))) 0)], .box [.int .u8 0, .str (Array.toList #[]), .str (Array.toList #[]), .str (Array.toList #[]), .int .u8 0, .str (Array.toList #[]), .str (Array.toList #[]), .int .i64 0, .nils, .int .i64 0, .nils, .nils]])) (.ex (fun (x : Con) => eqL [AV.agg [AV.int .u8 8, AV.str (Deal.long d), AV.str (Array.toList #[]), AV.str ch, AV.int .u8 0, AV.str (Array.toList #[]), AV.str (Array.toList #[]), AV.int .i64 0, AV.nils, AV.int .i64 0, AV.sl days.length 1 (Con.dayG days), AV.sl 1 12 (zi (zj 12 (Con.zg (Tm.pay n.1 (Tm.over (Deal.zb n.1) (Tm.spot (Deal.name n.1)) n.2) (Deal.zf n.1)))) 0)]] [(Con.conA x)] ∧ Con.big x < 274877906944) fun n_6 => .all (fun (x : Unit) => True) fun n_7 => .leaf (.ret [(Con.conD n_6), .int .i64 0] [.box [.str (Deal.long d), .str (Deal.short d), .str (Deal.ccy d), .str (Deal.name d), .str (Deal.zb d), .str (Deal.zf d)], .box (Con.zg n_6), .dead, .box (Con.zg n_6), .box [.int .u8 8, .str (Deal.long d), .str (Array.toList #[]), .str ch, .int .u8 0, .str (Array.toList #[]), .str (Array.toList #[]), .int .i64 0, .nils, .int .i64 0, .sl days.length 1 (Con.dayG days), .sl 1 12 (zi (zj 12 (Con.zg (Tm.pay n.1 (Tm.over (Deal.zb n.1) (Tm.spot (Deal.name n.1)) n.2) (Deal.zf n.1)))) 0)], .box (Con.zg n_6)])))) (.ex (fun (x : Con) => eqL [AV.agg [AV.int .u8 8, AV.str (Deal.long d), AV.str (Array.toList #[]), AV.str ch, AV.int .u8 0, AV.str (Array.toList #[]), AV.str (Array.toList #[]), AV.int .i64 0, AV.nils, AV.int .i64 0, AV.sl days.length 1 (Con.dayG days), AV.sl 1 12 (zi (zj 12 (Con.zg (Tm.pay n.1 (Tm.over (Deal.zb n.1) (Tm.spot (Deal.name n.1)) n.2) (Deal.zf n.1)))) 0)]] [(Con.conA x)] ∧ Con.big x < 1099511627776 ∧ Con.nodes x ≤ 1000000) fun n_3 => .all (fun (r : Int) => r = Con.errC n_3) fun n_4 => .ite (!decide (n_4 = 0)) (.leaf (.ret [.agg [.int .u8 0, .str (Array.toList #[]), .str (Array.toList #[]), .str (Array.toList #[]), .int .u8 0, .str (Array.toList #[]), .str (Array.toList #[]), .int .i64 0, .nils, .int .i64 0, .nils, .nils], .int .i64 n_4] [.box [.str (Deal.long d), .str (Deal.short d), .str (Deal.ccy d), .str (Deal.name d), .str (Deal.zb d), .str (Deal.zf d)], .box [.int .u8 0, .str (Array.toList #[]), .str (Array.toList #[]), .str (Array.toList #[]), .int .u8 0, .str (Array.toList #[]), .str (Array.toList #[]), .int .i64 0, .nils, .int .i64 0, .nils, .nils], .box [.int .u8 0, .str (Array.toList #[]), .str (Array.toList #[]), .str (Array.toList #[]), .int .u8 0, .str (Array.toList #[]), .str (Array.toList #[]), .int .i64 0, .nils, .int .i64 0, .nils, .nils], .dead, .box [.int .u8 8, .str (Deal.long d), .str (Array.toList #[]), .str ch, .int .u8 0, .str (Array.toList #[]), .str (Array.toList #[]), .int .i64 0, .nils, .int .i64 0, .sl days.length 1 (Con.dayG days), .sl 1 12 (zi (zj 12 (Con.zg (Tm.pay n.1 (Tm.over (Deal.zb n.1) (Tm.spot (Deal.name n.1)) n.2) (Deal.zf n.1)))) 0)], .box [.int .u8 0, .str (Array.toList #[]), .str (Array.toList #[]), .str (Array.toList #[]), .int .u8 0, .str (Array.toList #[]), .str (Array.toList #[]), .int .i64 0, .nils, .int .i64 0, .nils, .nils]])) (.ex (fun (x : Con) => eqL [AV.agg [AV.int .u8 8, AV.str (Deal.long d), AV.str (Array.toList #[]), AV.str ch, AV.int .u8 0, AV.str (Array.toList #[]), AV.str (Array.toList #[]), AV.int .i64 0, AV.nils, AV.int .i64 0, AV.sl days.length 1 (Con.dayG days), AV.sl 1 12 (zi (zj 12 (Con.zg (Tm.pay n.1 (Tm.over (Deal.zb n.1) (Tm.spot (Deal.name n.1)) n.2) (Deal.zf n.1)))) 0)]] [(Con.conA x)] ∧ Con.big x < 274877906944) fun n_5 => .all (fun (x : Unit) => True) fun n_6 => .leaf (.ret [(Con.conD n_5), .int .i64 0] [.box [.str (Deal.long d), .str (Deal.short d), .str (Deal.ccy d), .str (Deal.name d), .str (Deal.zb d), .str (Deal.zf d)], .box (Con.zg n_5), .box (Con.zg n_5), .dead, .box [.int .u8 8, .str (Deal.long d), .str (Array.toList #[]), .str ch, .int .u8 0, .str (Array.toList #[]), .str (Array.toList #[]), .int .i64 0, .nils, .int .i64 0, .sl days.length 1 (Con.dayG days), .sl 1 12 (zi (zj 12 (Con.zg (Tm.pay n.1 (Tm.over (Deal.zb n.1) (Tm.spot (Deal.name n.1)) n.2) (Deal.zf n.1)))) 0)], .box (Con.zg n_5)])))) (.ex (fun (x : Deal × Bool) => eqL [(Deal.av d), AV.bool put] [(Deal.av x.1), AV.bool x.2] ∧ True) fun n => .all (fun (x : Unit) => True) fun n_1 => .ex (fun (x : Con) => eqL [AV.agg [AV.int .u8 8, AV.str (Deal.long d), AV.str (Array.toList #[]), AV.str ch, AV.int .u8 0, AV.str (Array.toList #[]), AV.str (Array.toList #[]), AV.int .i64 0, AV.nils, AV.int .i64 0, AV.sl days.length 1 (Con.dayG days), AV.sl 1 12 (zi (zj 12 (Con.zg (Tm.pay n.1 (Tm.over (Deal.zb n.1) (Tm.spot (Deal.name n.1)) n.2) (Deal.zf n.1)))) 0)]] [(Con.conA x)] ∧ Con.big x < 1099511627776 ∧ Con.nodes x ≤ 1000000) fun n_2 => .all (fun (r : Int) => r = Con.errC n_2) fun n_3 => .ite (!decide (n_3 = 0)) (.leaf (.ret [.agg [.int .u8 0, .str (Array.toList #[]), .str (Array.toList #[]), .str (Array.toList #[]), .int .u8 0, .str (Array.toList #[]), .str (Array.toList #[]), .int .i64 0, .nils, .int .i64 0, .nils, .nils], .int .i64 n_3] [.box [.str (Deal.long d), .str (Deal.short d), .str (Deal.ccy d), .str (Deal.name d), .str (Deal.zb d), .str (Deal.zf d)], .box [.int .u8 0, .str (Array.toList #[]), .str (Array.toList #[]), .str (Array.toList #[]), .int .u8 0, .str (Array.toList #[]), .str (Array.toList #[]), .int .i64 0, .nils, .int .i64 0, .nils, .nils], .box [.int .u8 0, .str (Array.toList #[]), .str (Array.toList #[]), .str (Array.toList #[]), .int .u8 0, .str (Array.toList #[]), .str (Array.toList #[]), .int .i64 0, .nils, .int .i64 0, .nils, .nils], .dead, .box [.int .u8 8, .str (Deal.long d), .str (Array.toList #[]), .str ch, .int .u8 0, .str (Array.toList #[]), .str (Array.toList #[]), .int .i64 0, .nils, .int .i64 0, .sl days.length 1 (Con.dayG days), .sl 1 12 (zi (zj 12 (Con.zg (Tm.pay n.1 (Tm.over (Deal.zb n.1) (Tm.spot (Deal.name n.1)) n.2) (Deal.zf n.1)))) 0)], .box [.int .u8 0, .str (Array.toList #[]), .str (Array.toList #[]), .str (Array.toList #[]), .int .u8 0, .str (Array.toList #[]), .str (Array.toList #[]), .int .i64 0, .nils, .int .i64 0, .nils, .nils]])) (.ex (fun (x : Con) => eqL [AV.agg [AV.int .u8 8, AV.str (Deal.long d), AV.str (Array.toList #[]), AV.str ch, AV.int .u8 0, AV.str (Array.toList #[]), AV.str (Array.toList #[]), AV.int .i64 0, AV.nils, AV.int .i64 0, AV.sl days.length 1 (Con.dayG days), AV.sl 1 12 (zi (zj 12 (Con.zg (Tm.pay n.1 (Tm.over (Deal.zb n.1) (Tm.spot (Deal.name n.1)) n.2) (Deal.zf n.1)))) 0)]] [(Con.conA x)] ∧ Con.big x < 274877906944) fun n_4 => .all (fun (x : Unit) => True) fun n_5 => .leaf (.ret [(Con.conD n_4), .int .i64 0] [.box [.str (Deal.long d), .str (Deal.short d), .str (Deal.ccy d), .str (Deal.name d), .str (Deal.zb d), .str (Deal.zf d)], .box (Con.zg n_4), .box (Con.zg n_4), .dead, .box [.int .u8 8, .str (Deal.long d), .str (Array.toList #[]), .str ch, .int .u8 0, .str (Array.toList #[]), .str (Array.toList #[]), .int .i64 0, .nils, .int .i64 0, .sl days.length 1 (Con.dayG days), .sl 1 12 (zi (zj 12 (Con.zg (Tm.pay n.1 (Tm.over (Deal.zb n.1) (Tm.spot (Deal.name n.1)) n.2) (Deal.zf n.1)))) 0)], .box (Con.zg n_4)]))))) (by kernel_rfl) ?_
 simp only [Tree.holds, ze]
 refine ⟨d, ⟨⟨⟨rfl, rfl, rfl, rfl, rfl, rfl, trivial⟩, trivial⟩, hp⟩, ⟨_, rfl⟩, ?_⟩
 rintro _ rfl
 refine ⟨fun h => ?_, fun h => ?_⟩
 ·exact RetR.out0 (kC hq (by simpa using h)) (fun h => by cases h) zero_eq
 have he : Tm.first 0 [d.zb, d.zf] = 0 := by simpa using h
 have hq2 := xb hq he
 have hq3 := y7 hq he
 clear hq
 have hn : (Tm.opt d ch days put).nodes ≤ 1000000 := by simp [Tm.opt, Tm.call, Tm.pay, Con.nodes, Con.qH]
 have harg : eqA (.agg [.int .u8 8, .str d.long, .str [], .str ch, .int .u8 0, .str [], .str [], .int .i64 0, .nils, .int .i64 0, .sl days.length 1 (Con.dayG days), .sl 1 12 (zi (zj 12 (Con.zg (Tm.pay d (Tm.over d.zb (Tm.spot d.name) put) d.zf))) 0)]) (Tm.opt d ch days put).conA := ⟨⟨rfl, rfl⟩, rfl, rfl, rfl, ⟨rfl, rfl⟩, rfl, rfl, ⟨rfl, rfl⟩, rfl, ⟨rfl, rfl⟩, ⟨rfl, rfl, za _ _ _⟩, ⟨rfl, rfl, Con.Yu _⟩, trivial⟩
 repeat' apply qW
 all_goals refine ⟨(d, put), ⟨⟨⟨rfl, rfl, rfl, rfl, rfl, rfl, trivial⟩, rfl, trivial⟩, trivial⟩, ⟨(), trivial⟩, fun _ _ => ?_⟩
 all_goals repeat' apply qW
 all_goals
  refine ⟨Tm.opt d ch days put, ⟨⟨harg, trivial⟩, by omega, hn⟩, ⟨_, rfl⟩, ?_⟩
  rintro _ rfl
  refine ⟨fun h1 => RetR.out0 (hq2 (by simpa using h1)) (fun h => by cases h) zero_eq, fun h1 => ?_⟩
  refine ⟨Tm.opt d ch days put, ⟨⟨harg, trivial⟩, by omega⟩, ⟨(), trivial⟩, fun _ _ => ?_⟩
  repeat' apply qW
  all_goals exact RetR.le0 (hq3 (by simpa using h1)) (fun h => by cases h) (LeA.refl _)
end Go.Proofs.Tryz
end

/- Templates: periods, plain. -/
section
namespace Go.Nov
open Go.Sx
structure Per where
 fix : Int
 pay : Int
 part : List UInt8
namespace Per
def nil : Per := ⟨0, 0, []⟩
def cell (p : Per) : Nat → AV
 | 0 => .int .i64 p.fix
 | 1 => .int .i64 p.pay
 | 2 => .str p.part
 | _ => .undef
def av (p : Per) : AV := .agg [.int .i64 p.fix, .int .i64 p.pay, .str p.part]
end Per
def perG (l : List Per) : Nat → Nat → AV := fun j => (l.getD j Per.nil).cell
def perS (l : List Per) : AV := .sl l.length 3 (perG l)
namespace Tm
def short (d : Deal) (l : List Per) (days : List Int) : Prop := fits d ∧ l.length ≤ 60 ∧ days.length ≤ 200 ∧ ∀ i, i < l.length → (l.getD i Per.nil).part.length ≤ 300
end Tm
end Go.Nov
end

/- Templates: the law of deals. -/
section
set_option maxRecDepth 100000
open Go Go.Sx Go.Proofs Go.Nov
namespace Go.Proofs.Tryz
attribute [local simp] eqKV eqA eqA0 eqH eqB eqL eqL0
noncomputable def K54 : List Go.Sx.Item := [.code (Tryz.f54.body.getD .skip)]
noncomputable def K9 : List Go.Sx.Item := [.code (Tryz.f9.body.getD .skip)]
structure k7 where
 d : Deal
 l : List Per
 days : List Int
def zff : Ctr := ctrP true (fun p : k7 => [p.d.av, perS p.l, Con.dayS p.days]) (fun p => p.l.length < 2 ^ 60) (fun p r => r = false → Tm.short p.d p.l p.days) (fun _ (r : Bool) => (.bool r, []))
def SLo (l : List Per) (i : Nat) : KV := [(1, perS l), (7, .int .i64 (i : Int))]
theorem zf0 : zd Tryz.prog 54 zff := by
 refine zk (fn := Tryz.f54) (c := Tryz.f54.body.getD .skip) rfl rfl rfl fun p hp O w0 Q hq => ?_
 obtain ⟨d, l, days⟩ := p
 replace hp : l.length < 2 ^ 60 := hp
 refine zc.run hmix zy [1, 7] 400 (T := .ite (bif bif bif bif bif bif bif decide ((200 : Int) < (↑(List.length (Deal.long d)) : Int)) then true else decide ((200 : Int) < (↑(List.length (Deal.short d)) : Int)) then true else decide ((200 : Int) < (↑(List.length (Deal.ccy d)) : Int)) then true else decide ((200 : Int) < (↑(List.length (Deal.name d)) : Int)) then true else decide ((2500 : Int) < (↑(List.length (Deal.zb d)) : Int)) then true else decide ((2500 : Int) < (↑(List.length (Deal.zf d)) : Int)) then true else decide ((60 : Int) < l.length) then true else decide ((200 : Int) < days.length)) (.leaf (.ret [.bool true] [.box [.str (Deal.long d), .str (Deal.short d), .str (Deal.ccy d), .str (Deal.name d), .str (Deal.zb d), .str (Deal.zf d)]])) (.leaf (.loop (Prod.fst (lps K54 0)) (Prod.snd (lps K54 0)) [(1, .sl l.length 3 (perG l)), (7, .int .i64 0)] [.box [.str (Deal.long d), .str (Deal.short d), .str (Deal.ccy d), .str (Deal.name d), .str (Deal.zb d), .str (Deal.zf d)]]))) (by kernel_rfl) ?_
 simp only [Tree.holds, ze]
 have hqt : Q (.bool true, []) := hq true (fun h => by cases h)
 refine ⟨fun h => RetR.scal hqt rfl (by simp [resV]), fun h => ?_⟩
 have hs : Tm.fits d ∧ l.length ≤ 60 ∧ days.length ≤ 200 := by
  simp only [Bool.cond_true_left, Bool.or_eq_false_iff, decide_eq_false_iff_not] at h
  unfold Tm.fits
  omega
 refine zc.loop (ι := {i : Nat // i ≤ l.length ∧ ∀ j, j < i → (l.getD j Per.nil).part.length ≤ 300}) (fun i => SLo l i.1) (fun i => [.box [.str d.long, .str d.short, .str d.ccy, .str d.name, .str d.zb, .str d.zf]]) (fun i => l.length - i.1) ⟨0, Nat.zero_le _, fun j hj => absurd hj (Nat.not_lt_zero j)⟩ 0 ?_ ?_ (by kernel_rfl)
 ·exact ⟨by simp [SLo, perS, za], by simp, by kernel_rfl, Nat.zero_le _⟩
 ·rintro ⟨i, hil, hall⟩
  refine zc.run hmix zy [1, 7] 400 (T := .ite (decide ((↑i : Int) < l.length)) (.side ((0 : Int) ≤ i ∧ (↑i : Int) < l.length) (.ite (decide ((300 : Int) < (↑(List.length (Per.part (List.getD l (Int.toNat (↑i : Int)) Per.nil))) : Int))) (.leaf (.ret [.bool true] [.box [.str (Deal.long d), .str (Deal.short d), .str (Deal.ccy d), .str (Deal.name d), .str (Deal.zb d), .str (Deal.zf d)]])) (.side (inR .i64 ((↑i : Int) + (1 : Int))) (.leaf (.back 0 [(1, .sl l.length 3 (perG l)), (7, .int .i64 ((↑i : Int) + (1 : Int)))] [.box [.str (Deal.long d), .str (Deal.short d), .str (Deal.ccy d), .str (Deal.name d), .str (Deal.zb d), .str (Deal.zf d)]]))))) (.leaf (.ret [.bool false] [.box [.str (Deal.long d), .str (Deal.short d), .str (Deal.ccy d), .str (Deal.name d), .str (Deal.zb d), .str (Deal.zf d)]]))) (by kernel_rfl) ?_
  simp only [Tree.holds, ze, inR, lo, hi, Int.toNat_natCast]
  refine ⟨fun hlt => ?_, fun hge => ?_⟩
  ·have hlt : i < l.length := by have := of_decide_eq_true hlt; omega
   refine ⟨by omega, fun _ => ⟨fun _ => RetR.scal hqt rfl (by simp [resV]), fun h3 => ⟨by omega, fun _ => ?_⟩⟩⟩
   rw [if_pos trivial]
   have h3 : (l.getD i Per.nil).part.length ≤ 300 := by have := of_decide_eq_false h3; omega
   refine ⟨⟨i + 1, hlt, fun j hj => ?_⟩, by show l.length - (i + 1) < l.length - i; omega, by simp [SLo, perS, za], by simp, by kernel_rfl, Nat.zero_le _⟩
   rcases Nat.lt_succ_iff_lt_or_eq.1 hj with hj | rfl
   ·exact hall j hj
   ·exact h3
  ·have hge : i = l.length := by have := of_decide_eq_false hge; omega
   subst hge
   exact RetR.scal (hq false fun _ => ⟨hs.1, hs.2.1, hs.2.2, hall⟩) rfl (by simp [resV])
theorem zcq (e : Con) : eqA (.agg [.int .u8 e.kind, .str e.src, .str e.dst, .str e.name, .int .u8 e.x.kind, .str e.x.rat, .str e.x.name, .int .i64 e.x.date, .sl e.x.sub.length 5 (Ex.exG e.x.sub), .int .i64 e.date, .sl e.days.length 1 (zi (Con.dayG e.days) 0), .sl e.sub.length 12 e.deep]) e.conA := by
 simp only [Con.conA, Ex.exS, Con.dayS, Con.conS, eqA]
 exact ⟨⟨rfl, rfl⟩, rfl, rfl, rfl, ⟨rfl, rfl⟩, rfl, rfl, ⟨rfl, rfl⟩, ⟨rfl, rfl, za _ _ _⟩, ⟨rfl, rfl⟩, ⟨rfl, rfl, vf _ _ _⟩, ⟨rfl, rfl, Con.z9 e⟩, trivial⟩
theorem Ww {e : Int} {c : Con} (h : c.big < 100000) : (Tm.out e c).big < 2 ^ 40 := by
 unfold Tm.out
 split
 ·omega
 ·have := Tm.Vd; omega
structure zha where
 d : Deal
 day : Int
 ch : List UInt8
 days : List Int
 put : Bool
noncomputable def GLd : Nat → Option Ctr := fun f => if f = 54 then some (zff) else if f = 55 then some (yv) else if f = 57 then some (uS) else if f = 59 then some (XG) else if f = 56 then some (yv) else if f = 58 then some (uS) else if f = 60 then some (Vl) else if f = 32 then some (VR) else if f = 61 then some (K0) else none
theorem K6 : ∀ g c, GLd g = some c → zd Tryz.prog g c := okIf zf0 (okIf Kq (okIf U1 (okIf Uv (okIf WC (okIf X9 (okIf KW (okIf zcb (okIf Vg (zx)))))))))
def SLd (days : List Int) (m i : Nat) : KV := [(3, Con.dayS days), (11, .osl 1 1 0 days.length), (20, .ptr m 0), (24, .bool true), (25, .int .i64 (i : Int)), (120, .undef), (121, .undef), (122, .undef)]
def HLd (days : List Int) (n : Nat) (g : Nat → Nat → AV) : Heap := [.dead, .arr days.length 1 (Con.dayG days), .dead, .dead, .dead, .dead, .arr n 1 g, .box [.undef, .undef, .undef, .undef, .undef, .undef, .undef, .undef, .undef, .undef, .osl 6 1 0 n, .undef], .dead]
def HLz (days : List Int) : Heap := [.dead, .arr days.length 1 (Con.dayG days), .dead, .dead, .dead, .dead, .box [.undef, .undef, .undef, .undef, .undef, .undef, .undef, .undef, .undef, .undef, .sl 0 1 (Con.dayG []), .undef], .dead]
def zh4 : Ctr := ctrP true (fun p : zha => [p.d.av, .int .i64 p.day, .str p.ch, Con.dayS p.days, .bool p.put]) (fun p => p.days.length < 2 ^ 45) (fun _ r => r = true) (fun _ (r : Bool) => (.bool r, []))
theorem zck : zd Tryz.prog 9 zh4 := by
 refine zk (fn := Tryz.f9) (c := Tryz.f9.body.getD .skip) rfl rfl rfl fun p hp O w0 Q hq => ?_
 obtain ⟨d, day, ch, days, put⟩ := p
 replace hp : days.length < 2 ^ 45 := hp
 replace hq := hq true rfl
 refine zc.run hmix K6 [3, 11, 20, 24, 25, 120, 121, 122] 400 (T := .ex (fun (x : k7) => eqL [(Deal.av d), AV.nils, AV.sl days.length 1 (Con.dayG days)] [(Deal.av (k7.d x)), AV.sl (List.length (k7.l x)) 3 (perG (k7.l x)), AV.sl (List.length (k7.days x)) 1 (Con.dayG (k7.days x))] ∧ List.length (k7.l x) < 1152921504606846976) fun n => .all (fun (r : Bool) => r = false → Tm.short (k7.d n) (k7.l n) (k7.days n)) fun n => .ite (bif n then true else decide ((200 : Int) < ch.length)) (.leaf (.ret [.bool true] [.box [.str (Deal.long d), .str (Deal.short d), .str (Deal.ccy d), .str (Deal.name d), .str (Deal.zb d), .str (Deal.zf d)]])) (.side (0 = 0 ∧ 0 ≤ 0 ∧ (0 + days.length) * 8 ≤ 140737488355328) (.ex (fun (x : Deal × Int) => eqL [(Deal.av d), AV.int .i64 day] [(Deal.av x.1), AV.int .i64 x.2] ∧ Tm.fits x.1) fun n => .all (fun (x : Unit) => True) fun n_1 => .ex (fun (x : Deal × Int) => eqL [(Deal.av d), AV.int .i64 day] [(Deal.av x.1), AV.int .i64 x.2] ∧ Tm.fits x.1) fun n_2 => .all (fun (x : Unit) => True) fun n_3 => .ex (fun (x : Deal × Int × Bool) => eqL [(Deal.av d), AV.int .i64 day, AV.bool put] [(Deal.av x.1), AV.int .i64 x.2.1, AV.bool x.2.2] ∧ Tm.fits x.1) fun n_4 => .all (fun (x : Unit) => True) fun n_5 => .ex (fun (x : Deal × Int × Bool) => eqL [(Deal.av d), AV.int .i64 day, AV.bool put] [(Deal.av x.1), AV.int .i64 x.2.1, AV.bool x.2.2] ∧ Tm.fits x.1) fun n_6 => .all (fun (x : Unit) => True) fun n_7 => .ex (fun (x : OptA) => eqL [(Deal.av d), AV.str ch, AV.sl days.length 1 (Con.dayG days), AV.bool put] [(Deal.av (OptA.d x)), AV.str (OptA.ch x), AV.sl (List.length (OptA.days x)) 1 (Con.dayG (OptA.days x)), AV.bool (OptA.put x)] ∧ Tm.fits (OptA.d x) ∧ List.length (OptA.ch x) ≤ 200 ∧ List.length (OptA.days x) ≤ 200) fun n_8 => .ite (decide (Tm.res (OptA.d n_8) (OptA.con n_8) = (0 : Int))) (.all (fun (x : Unit) => True) fun n_9 => .ex (fun (x : OptA) => eqL [(Deal.av d), AV.str ch, AV.sl days.length 1 (Con.dayG days), AV.bool put] [(Deal.av (OptA.d x)), AV.str (OptA.ch x), AV.sl (List.length (OptA.days x)) 1 (Con.dayG (OptA.days x)), AV.bool (OptA.put x)] ∧ Tm.fits (OptA.d x) ∧ List.length (OptA.ch x) ≤ 200 ∧ List.length (OptA.days x) ≤ 200) fun n_10 => .all (fun (x : Unit) => True) fun n_11 => .ex (fun (x : Con × Con) => eqL [(Con.conD (Tm.out (Tm.res n.1 (Tm.fwd n.1 n.2)) (Tm.fwd n.1 n.2))), (Con.conD (Tm.out (Tm.res n_2.1 (Tm.fwd n_2.1 n_2.2)) (Tm.fwd n_2.1 n_2.2)))] [(Con.conA x.1), (Con.conA x.2)] ∧ Con.big x.1 < 1099511627776) fun n_12 => .all (fun (r : Bool) => r = true ↔ n_12.1 = n_12.2) fun n_13 => .ex (fun (x : Con × Con) => (bif n_13 then decide (Tm.res n.1 (Tm.fwd n.1 n.2) = Tm.res n_2.1 (Tm.fwd n_2.1 n_2.2)) else false) = true → eqL [(Con.conD (Tm.out (Tm.res n_4.1 (Tm.pff n_4.1 n_4.2.1 n_4.2.2)) (Tm.pff n_4.1 n_4.2.1 n_4.2.2))), (Con.conD (Tm.out (Tm.res n_6.1 (Tm.pff n_6.1 n_6.2.1 n_6.2.2)) (Tm.pff n_6.1 n_6.2.1 n_6.2.2)))] [(Con.conA x.1), (Con.conA x.2)] ∧ Con.big x.1 < 1099511627776) fun n_14 => .all (fun (x : Bool) => (bif n_13 then decide (Tm.res n.1 (Tm.fwd n.1 n.2) = Tm.res n_2.1 (Tm.fwd n_2.1 n_2.2)) else false) = true → (x = true ↔ n_14.1 = n_14.2)) fun n_15 => .ex (fun (x : Con × Con) => (bif bif bif n_13 then decide (Tm.res n.1 (Tm.fwd n.1 n.2) = Tm.res n_2.1 (Tm.fwd n_2.1 n_2.2)) else false then n_15 else false then decide (Tm.res n_4.1 (Tm.pff n_4.1 n_4.2.1 n_4.2.2) = Tm.res n_6.1 (Tm.pff n_6.1 n_6.2.1 n_6.2.2)) else false) = true → eqL [AV.agg [AV.int .u8 (Con.kind (OptA.con n_8)), AV.str (Con.src (OptA.con n_8)), AV.str (Con.dst (OptA.con n_8)), AV.str (Con.name (OptA.con n_8)), AV.int .u8 (Ex.kind (Con.x (OptA.con n_8))), AV.str (Ex.rat (Con.x (OptA.con n_8))), AV.str (Ex.name (Con.x (OptA.con n_8))), AV.int .i64 (Ex.date (Con.x (OptA.con n_8))), AV.sl (List.length (Ex.sub (Con.x (OptA.con n_8)))) 5 (Ex.exG (Ex.sub (Con.x (OptA.con n_8)))), AV.int .i64 (Con.date (OptA.con n_8)), AV.sl (List.length (Con.days (OptA.con n_8))) 1 (zi (Con.dayG (Con.days (OptA.con n_8))) 0), AV.sl (List.length (Con.sub (OptA.con n_8))) 12 (Con.deep (OptA.con n_8))], (Con.conD (Tm.out (Tm.res (OptA.d n_10) (OptA.con n_10)) (OptA.con n_10)))] [(Con.conA x.1), (Con.conA x.2)] ∧ Con.big x.1 < 1099511627776) fun n_16 => .all (fun (x : Bool) => (bif bif bif n_13 then decide (Tm.res n.1 (Tm.fwd n.1 n.2) = Tm.res n_2.1 (Tm.fwd n_2.1 n_2.2)) else false then n_15 else false then decide (Tm.res n_4.1 (Tm.pff n_4.1 n_4.2.1 n_4.2.2) = Tm.res n_6.1 (Tm.pff n_6.1 n_6.2.1 n_6.2.2)) else false) = true → (x = true ↔ n_16.1 = n_16.2)) fun n_17 => .leaf (.loop (Prod.fst (lps K9 0)) (Prod.snd (lps K9 0)) [(3, .sl days.length 1 (Con.dayG days)), (11, .osl 1 1 0 (0 + days.length)), (20, .ptr 7 0), (24, .bool (bif bif bif bif bif n_13 then decide (Tm.res n.1 (Tm.fwd n.1 n.2) = Tm.res n_2.1 (Tm.fwd n_2.1 n_2.2)) else false then n_15 else false then decide (Tm.res n_4.1 (Tm.pff n_4.1 n_4.2.1 n_4.2.2) = Tm.res n_6.1 (Tm.pff n_6.1 n_6.2.1 n_6.2.2)) else false then n_17 else false then decide ((0 : Int) = Tm.res (OptA.d n_10) (OptA.con n_10)) else false)), (25, .int .i64 0), (120, .undef), (121, .undef), (122, .undef)] [.box [.str (Deal.long d), .str (Deal.short d), .str (Deal.ccy d), .str (Deal.name d), .str (Deal.zb d), .str (Deal.zf d)], .arr (0 + days.length) 1 (appG 0 (zj 1 []) (Con.dayG days)), .box (Con.zg (Tm.out (Tm.res n.1 (Tm.fwd n.1 n.2)) (Tm.fwd n.1 n.2))), .box (Con.zg (Tm.out (Tm.res n_2.1 (Tm.fwd n_2.1 n_2.2)) (Tm.fwd n_2.1 n_2.2))), .box (Con.zg (Tm.out (Tm.res n_4.1 (Tm.pff n_4.1 n_4.2.1 n_4.2.2)) (Tm.pff n_4.1 n_4.2.1 n_4.2.2))), .box (Con.zg (Tm.out (Tm.res n_6.1 (Tm.pff n_6.1 n_6.2.1 n_6.2.2)) (Tm.pff n_6.1 n_6.2.1 n_6.2.2))), .arr (List.length (Con.days (OptA.con n_8))) 1 (Con.dayG (Con.days (OptA.con n_8))), .box [.int .u8 (Con.kind (OptA.con n_8)), .str (Con.src (OptA.con n_8)), .str (Con.dst (OptA.con n_8)), .str (Con.name (OptA.con n_8)), .int .u8 (Ex.kind (Con.x (OptA.con n_8))), .str (Ex.rat (Con.x (OptA.con n_8))), .str (Ex.name (Con.x (OptA.con n_8))), .int .i64 (Ex.date (Con.x (OptA.con n_8))), .sl (List.length (Ex.sub (Con.x (OptA.con n_8)))) 5 (Ex.exG (Ex.sub (Con.x (OptA.con n_8)))), .int .i64 (Con.date (OptA.con n_8)), .osl 6 1 0 (List.length (Con.days (OptA.con n_8))), .sl (List.length (Con.sub (OptA.con n_8))) 12 (Con.deep (OptA.con n_8))], .box (Con.zg (Tm.out (Tm.res (OptA.d n_10) (OptA.con n_10)) (OptA.con n_10)))])) (.ex (fun (x : OptA) => eqL [(Deal.av d), AV.str ch, AV.sl days.length 1 (Con.dayG days), AV.bool put] [(Deal.av (OptA.d x)), AV.str (OptA.ch x), AV.sl (List.length (OptA.days x)) 1 (Con.dayG (OptA.days x)), AV.bool (OptA.put x)] ∧ Tm.fits (OptA.d x) ∧ List.length (OptA.ch x) ≤ 200 ∧ List.length (OptA.days x) ≤ 200) fun n_9 => .all (fun (x : Unit) => True) fun n_10 => .ex (fun (x : Con × Con) => eqL [(Con.conD (Tm.out (Tm.res n.1 (Tm.fwd n.1 n.2)) (Tm.fwd n.1 n.2))), (Con.conD (Tm.out (Tm.res n_2.1 (Tm.fwd n_2.1 n_2.2)) (Tm.fwd n_2.1 n_2.2)))] [(Con.conA x.1), (Con.conA x.2)] ∧ Con.big x.1 < 1099511627776) fun n_11 => .all (fun (r : Bool) => r = true ↔ n_11.1 = n_11.2) fun n_12 => .ex (fun (x : Con × Con) => (bif n_12 then decide (Tm.res n.1 (Tm.fwd n.1 n.2) = Tm.res n_2.1 (Tm.fwd n_2.1 n_2.2)) else false) = true → eqL [(Con.conD (Tm.out (Tm.res n_4.1 (Tm.pff n_4.1 n_4.2.1 n_4.2.2)) (Tm.pff n_4.1 n_4.2.1 n_4.2.2))), (Con.conD (Tm.out (Tm.res n_6.1 (Tm.pff n_6.1 n_6.2.1 n_6.2.2)) (Tm.pff n_6.1 n_6.2.1 n_6.2.2)))] [(Con.conA x.1), (Con.conA x.2)] ∧ Con.big x.1 < 1099511627776) fun n_13 => .all (fun (x : Bool) => (bif n_12 then decide (Tm.res n.1 (Tm.fwd n.1 n.2) = Tm.res n_2.1 (Tm.fwd n_2.1 n_2.2)) else false) = true → (x = true ↔ n_13.1 = n_13.2)) fun n_14 => .ex (fun (x : Con × Con) => (bif bif bif n_12 then decide (Tm.res n.1 (Tm.fwd n.1 n.2) = Tm.res n_2.1 (Tm.fwd n_2.1 n_2.2)) else false then n_14 else false then decide (Tm.res n_4.1 (Tm.pff n_4.1 n_4.2.1 n_4.2.2) = Tm.res n_6.1 (Tm.pff n_6.1 n_6.2.1 n_6.2.2)) else false) = true → eqL [AV.agg [AV.int .u8 0, AV.str (Con.src Tm.zero), AV.str (Con.dst Tm.zero), AV.str (Con.name Tm.zero), AV.int .u8 0, AV.str (Ex.rat (Con.x Tm.zero)), AV.str (Ex.name (Con.x Tm.zero)), AV.int .i64 0, AV.sl 0 5 (Ex.exG (Ex.sub (Con.x Tm.zero))), AV.int .i64 0, AV.sl 0 1 (Con.dayG (Con.days Tm.zero)), AV.sl 0 12 (Con.deep Tm.zero)], (Con.conD (Tm.out (Tm.res (OptA.d n_9) (OptA.con n_9)) (OptA.con n_9)))] [(Con.conA x.1), (Con.conA x.2)] ∧ Con.big x.1 < 1099511627776) fun n_15 => .all (fun (x : Bool) => (bif bif bif n_12 then decide (Tm.res n.1 (Tm.fwd n.1 n.2) = Tm.res n_2.1 (Tm.fwd n_2.1 n_2.2)) else false then n_14 else false then decide (Tm.res n_4.1 (Tm.pff n_4.1 n_4.2.1 n_4.2.2) = Tm.res n_6.1 (Tm.pff n_6.1 n_6.2.1 n_6.2.2)) else false) = true → (x = true ↔ n_15.1 = n_15.2)) fun n_16 => .leaf (.loop (Prod.fst (lps K9 0)) (Prod.snd (lps K9 0)) [(3, .sl days.length 1 (Con.dayG days)), (11, .osl 1 1 0 (0 + days.length)), (20, .ptr 6 0), (24, .bool (bif bif bif bif bif n_12 then decide (Tm.res n.1 (Tm.fwd n.1 n.2) = Tm.res n_2.1 (Tm.fwd n_2.1 n_2.2)) else false then n_14 else false then decide (Tm.res n_4.1 (Tm.pff n_4.1 n_4.2.1 n_4.2.2) = Tm.res n_6.1 (Tm.pff n_6.1 n_6.2.1 n_6.2.2)) else false then n_16 else false then decide (Tm.res (OptA.d n_8) (OptA.con n_8) = Tm.res (OptA.d n_9) (OptA.con n_9)) else false)), (25, .int .i64 0), (120, .undef), (121, .undef), (122, .undef)] [.box [.str (Deal.long d), .str (Deal.short d), .str (Deal.ccy d), .str (Deal.name d), .str (Deal.zb d), .str (Deal.zf d)], .arr (0 + days.length) 1 (appG 0 (zj 1 []) (Con.dayG days)), .box (Con.zg (Tm.out (Tm.res n.1 (Tm.fwd n.1 n.2)) (Tm.fwd n.1 n.2))), .box (Con.zg (Tm.out (Tm.res n_2.1 (Tm.fwd n_2.1 n_2.2)) (Tm.fwd n_2.1 n_2.2))), .box (Con.zg (Tm.out (Tm.res n_4.1 (Tm.pff n_4.1 n_4.2.1 n_4.2.2)) (Tm.pff n_4.1 n_4.2.1 n_4.2.2))), .box (Con.zg (Tm.out (Tm.res n_6.1 (Tm.pff n_6.1 n_6.2.1 n_6.2.2)) (Tm.pff n_6.1 n_6.2.1 n_6.2.2))), .box [.int .u8 0, .str (Con.src Tm.zero), .str (Con.dst Tm.zero), .str (Con.name Tm.zero), .int .u8 0, .str (Ex.rat (Con.x Tm.zero)), .str (Ex.name (Con.x Tm.zero)), .int .i64 0, .sl 0 5 (Ex.exG (Ex.sub (Con.x Tm.zero))), .int .i64 0, .sl 0 1 (Con.dayG (Con.days Tm.zero)), .sl 0 12 (Con.deep Tm.zero)], .box (Con.zg (Tm.out (Tm.res (OptA.d n_9) (OptA.con n_9)) (OptA.con n_9)))]))))) (by kernel_rfl) ?_
 simp only [Tree.holds, ze]
 refine ⟨⟨d, [], days⟩, ⟨⟨⟨rfl, rfl, rfl, rfl, rfl, rfl, trivial⟩, rfl, ⟨rfl, rfl, za _ _ _⟩, trivial⟩, by show 0 < 2 ^ 60; decide⟩, ⟨true, fun h => by cases h⟩, fun b hb => ⟨fun _ => RetR.scal hq rfl (by simp [resV]), fun h => ?_⟩⟩
 have hs : b = false ∧ ch.length ≤ 200 := by
  simp only [Bool.cond_true_left, Bool.or_eq_false_iff, decide_eq_false_iff_not] at h
  exact ⟨h.1, by omega⟩
 obtain ⟨hf, _, hd, _⟩ := hb hs.1
 have hch := hs.2
 clear hb h hs
 replace hd : days.length ≤ 200 := hd
 refine ⟨⟨trivial, by decide, by omega⟩, fun _ => ?_⟩
 have e0 : eqA (.agg [.str d.long, .str d.short, .str d.ccy, .str d.name, .str d.zb, .str d.zf]) d.av := ⟨rfl, rfl, rfl, rfl, rfl, rfl, trivial⟩
 refine ⟨(d, day), ⟨⟨e0, ⟨rfl, rfl⟩, trivial⟩, hf⟩, ⟨(), trivial⟩, fun _ _ => ?_⟩
 refine ⟨(d, day), ⟨⟨e0, ⟨rfl, rfl⟩, trivial⟩, hf⟩, ⟨(), trivial⟩, fun _ _ => ?_⟩
 refine ⟨(d, day, put), ⟨⟨e0, ⟨rfl, rfl⟩, rfl, trivial⟩, hf⟩, ⟨(), trivial⟩, fun _ _ => ?_⟩
 refine ⟨(d, day, put), ⟨⟨e0, ⟨rfl, rfl⟩, rfl, trivial⟩, hf⟩, ⟨(), trivial⟩, fun _ _ => ?_⟩
 have e1 : eqL [.agg [.str d.long, .str d.short, .str d.ccy, .str d.name, .str d.zb, .str d.zf], .str ch, .sl days.length 1 (Con.dayG days), .bool put] [d.av, .str ch, Con.dayS days, .bool put] := ⟨e0, rfl, ⟨rfl, rfl, za _ _ _⟩, rfl, trivial⟩
 refine ⟨⟨d, ch, days, put⟩, ⟨e1, hf, hch, hd⟩, fun h1 => ⟨⟨(), trivial⟩, fun _ _ => ?_⟩, fun h1 => ?_⟩
 all_goals refine ⟨⟨d, ch, days, put⟩, ⟨e1, hf, hch, hd⟩, ⟨(), trivial⟩, fun _ _ => ?_⟩
 all_goals
  have b1 := Ww (e := Tm.res d (Tm.fwd d day)) (Tm.Wa (day := day) hf)
  have b2 := Ww (e := Tm.res d (Tm.pff d day put)) (Tm.Ws (day := day) (put := put) hf)
  have b3 := Ww (e := Tm.res d (Tm.opt d ch days put)) (Tm.uY (ch := ch) (days := days) (put := put) hf hch hd)
  have b4 := Tm.uY (ch := ch) (days := days) (put := put) hf hch hd
  refine ⟨(_, _), ⟨⟨zD (Tm.out (Tm.res d (Tm.fwd d day)) (Tm.fwd d day)), zD (Tm.out (Tm.res d (Tm.fwd d day)) (Tm.fwd d day)), trivial⟩, b1⟩, ⟨true, by simp⟩, fun r1 hr => ?_⟩
  obtain rfl : r1 = true := hr.2 rfl
  refine ⟨(_, _), fun _ => ⟨⟨zD (Tm.out (Tm.res d (Tm.pff d day put)) (Tm.pff d day put)), zD (Tm.out (Tm.res d (Tm.pff d day put)) (Tm.pff d day put)), trivial⟩, b2⟩, ⟨true, fun _ => by simp⟩, fun r2 hr => ?_⟩
  obtain rfl : r2 = true := (hr (by simp)).2 rfl
 ·have hz : Tm.res d (Tm.opt d ch days put) = 0 := of_decide_eq_true h1
  have ho : Tm.out 0 (Tm.opt d ch days put) = Tm.opt d ch days put := by unfold Tm.out; rw [if_pos rfl]
  simp only [OptA.con, hz, ho, decide_true, cond_true]
  obtain ⟨c, hc⟩ : ∃ c, Tm.opt d ch days put = c := ⟨_, rfl⟩
  have b4 : c.big < 100000 := by rw [← hc]; exact b4
  simp only [hc]
  refine ⟨(c, c), fun _ => ⟨⟨zcq c, zD c, trivial⟩, by show c.big < 2 ^ 40; omega⟩, ⟨true, fun _ => by simp⟩, fun r3 hr => ?_⟩
  obtain rfl : r3 = true := (hr trivial).2 rfl
  have hcl : c.days.length < 2 ^ 40 := by rw [Con.w7] at b4; omega
  clear b1 b2 b3 hc
  refine zc.loop (ι := {p : Nat × (Nat → Nat → AV) // p.1 ≤ c.days.length}) (fun p => SLd days 7 p.1.1) (fun p => HLd days c.days.length p.1.2) (fun p => c.days.length - p.1.1) ⟨(0, Con.dayG c.days), Nat.zero_le _⟩ 0 ?_ ?_ (by kernel_rfl)
  ·refine ⟨by simp [SLd, Con.dayS, za], ?_, by kernel_rfl, Nat.zero_le _⟩
   refine ⟨trivial, ⟨by omega, rfl, yd _ _ _ _⟩, trivial, trivial, trivial, trivial, ⟨rfl, rfl, za _ _ _⟩, by simp, trivial, trivial⟩
  ·rintro ⟨⟨i, g⟩, hil⟩
   replace hil : i ≤ c.days.length := hil
   obtain ⟨n, hn⟩ : ∃ n, c.days.length = n := ⟨_, rfl⟩
   rw [hn] at hil hcl
   simp only [hn]
   refine zc.run hmix K6 [3, 11, 20, 24, 25, 120, 121, 122] 400 (T := .ite (decide ((↑i : Int) < n)) (.side ((0 : Int) ≤ i ∧ (↑i : Int) < n) (.side (inR .i64 ((↑i : Int) + (1 : Int))) (.leaf (.back 0 [(3, .sl days.length 1 (Con.dayG days)), (11, .osl 1 1 0 days.length), (20, .ptr 7 0), (24, .bool true), (25, .int .i64 ((↑i : Int) + (1 : Int))), (120, .undef), (121, .undef), (122, .undef)] [.dead, .arr days.length 1 (Con.dayG days), .dead, .dead, .dead, .dead, .arr n 1 (updG g (0 + Int.toNat (↑i : Int)) 0 [.int .i64 (-1 : Int)]), .box [.undef, .undef, .undef, .undef, .undef, .undef, .undef, .undef, .undef, .undef, .osl 6 1 0 n, .undef], .dead])))) (.ex (fun (x : List Int × List Int) => true = true → eqL [AV.sl days.length 1 (Con.dayG days), AV.sl days.length 1 (zi (Con.dayG days) 0)] [AV.sl x.1.length 1 (Con.dayG x.1), AV.sl x.2.length 1 (Con.dayG x.2)] ∧ x.1.length < 1099511627776) fun n_1 => .all (fun (x : Bool) => true = true → (x = true ↔ n_1.1 = n_1.2)) fun n_2 => .leaf (.ret [.bool (bif true then n_2 else false)] [.dead, .arr days.length 1 (Con.dayG days), .dead, .dead, .dead, .dead, .arr n 1 g, .box [.undef, .undef, .undef, .undef, .undef, .undef, .undef, .undef, .undef, .undef, .osl 6 1 0 n, .undef], .dead]))) (by kernel_rfl) ?_
   simp only [Tree.holds, ze, inR, lo, hi, Int.toNat_natCast]
   refine ⟨fun hlt => ?_, fun hge => ?_⟩
   ·have hlt : i < n := by have := of_decide_eq_true hlt; omega
    refine ⟨by omega, fun _ => ⟨by omega, fun _ => ?_⟩⟩
    rw [if_pos trivial]
    refine ⟨⟨(i + 1, updG g (0 + i) 0 [.int .i64 (-1)]), by show i + 1 ≤ c.days.length; omega⟩, by show n - (i + 1) < n - i; omega, by simp [SLd, Con.dayS, za], ?_, by kernel_rfl, Nat.zero_le _⟩
    exact ⟨trivial, ⟨rfl, rfl, za _ _ _⟩, trivial, trivial, trivial, trivial, ⟨rfl, rfl, za _ _ _⟩, by simp, trivial, trivial⟩
   ·refine ⟨(days, days), fun _ => ⟨⟨⟨rfl, rfl, za _ _ _⟩, ⟨rfl, rfl, vf _ _ _⟩, trivial⟩, by show days.length < 2 ^ 40; omega⟩, ⟨true, fun _ => by simp⟩, fun r4 hr4 => ?_⟩
    obtain rfl : r4 = true := (hr4 trivial).2 rfl
    exact RetR.scal hq rfl (by simp [resV])
 ·have hz : ¬ Tm.res d (Tm.opt d ch days put) = 0 := of_decide_eq_false h1
  have ho : Tm.out (Tm.res d (Tm.opt d ch days put)) (Tm.opt d ch days put) = Tm.zero := by unfold Tm.out; rw [if_neg hz]
  simp only [OptA.con, ho, decide_true, cond_true]
  refine ⟨(Tm.zero, Tm.zero), fun _ => ⟨⟨zD Tm.zero, zD Tm.zero, trivial⟩, by show Tm.zero.big < 2 ^ 40; have := Tm.Vd; omega⟩, ⟨true, fun _ => by simp⟩, fun r3 hr => ?_⟩
  obtain rfl : r3 = true := (hr trivial).2 rfl
  clear b1 b2 b3
  refine zc.loop (ι := Unit) (fun p => SLd days 6 0) (fun p => HLz days) (fun p => 0) () 0 ?_ ?_ (by kernel_rfl)
  ·refine ⟨by simp [SLd, Con.dayS, za], ?_, by kernel_rfl, Nat.zero_le _⟩
   refine ⟨trivial, ⟨by omega, rfl, yd _ _ _ _⟩, trivial, trivial, trivial, trivial, by simp [Tm.zero, Con.days, eqG], trivial, trivial⟩
  ·rintro ⟨⟩
   refine zc.run hmix K6 [3, 11, 20, 24, 25, 120, 121, 122] 400 (T := .ite false (.side ((0 : Int) ≤ 0 ∧ (0 : Int) < 0) .fail) (.ex (fun (x : List Int × List Int) => true = true → eqL [AV.sl days.length 1 (Con.dayG days), AV.sl days.length 1 (zi (Con.dayG days) 0)] [AV.sl x.1.length 1 (Con.dayG x.1), AV.sl x.2.length 1 (Con.dayG x.2)] ∧ x.1.length < 1099511627776) fun n => .all (fun (x : Bool) => true = true → (x = true ↔ n.1 = n.2)) fun n => .leaf (.ret [.bool (bif true then n else false)] [.dead, .arr days.length 1 (Con.dayG days), .dead, .dead, .dead, .dead, .box [.undef, .undef, .undef, .undef, .undef, .undef, .undef, .undef, .undef, .undef, .sl 0 1 (Con.dayG []), .undef], .dead]))) (by kernel_rfl) ?_
   simp only [Tree.holds, ze, inR, lo, hi, Int.toNat_natCast]
   refine ⟨fun h => absurd h (by decide), fun _ => ?_⟩
   refine ⟨(days, days), fun _ => ⟨⟨⟨rfl, rfl, za _ _ _⟩, ⟨rfl, rfl, vf _ _ _⟩, trivial⟩, by show days.length < 2 ^ 40; omega⟩, ⟨true, fun _ => by simp⟩, fun r4 hr4 => ?_⟩
   obtain rfl : r4 = true := (hr4 trivial).2 rfl
   exact RetR.scal hq rfl (by simp [resV])
end Go.Proofs.Tryz
end

/- The order of what is known. -/
section
set_option maxRecDepth 100000
open Go Go.Sx Go.Proofs Go.Nov
namespace Go.Proofs.Tryz
attribute [local simp] eqKV eqA eqA0 eqH eqB eqL eqL0
end Go.Proofs.Tryz
end

/- What is known: the checks. -/
section
set_option maxRecDepth 100000
open Go Go.Sx Go.Proofs Go.Nov
namespace Go.Proofs.Tryz
attribute [local simp] eqKV eqA eqA0 eqH eqB eqL eqL0
end Go.Proofs.Tryz
end

/- What is known: the reference's checks. -/
section
set_option maxRecDepth 100000
open Go Go.Sx Go.Proofs Go.Nov
namespace Go.Proofs.Tryz
attribute [local simp] eqKV eqA eqA0 eqH eqB eqL eqL0
end Go.Proofs.Tryz
end

/- What is known: the reference's checks, finding, copies. -/
section
set_option maxRecDepth 100000
open Go Go.Sx Go.Proofs Go.Nov
namespace Go.Proofs.Tryz
attribute [local simp] eqKV eqA eqA0 eqH eqB eqL eqL0
end Go.Proofs.Tryz
end

/- What is known: the reference's copies and places. -/
section
set_option maxRecDepth 100000
open Go Go.Sx Go.Proofs Go.Nov
namespace Go.Proofs.Tryz
attribute [local simp] eqKV eqA eqA0 eqH eqB eqL eqL0
end Go.Proofs.Tryz
end

/- What is known: size; the code's finding. -/
section
set_option maxRecDepth 100000
open Go Go.Sx Go.Proofs Go.Nov
namespace Go.Proofs.Tryz
attribute [local simp] eqKV eqA eqA0 eqH eqB eqL eqL0
end Go.Proofs.Tryz
end

/- What is known, of bounded size. -/
section
open Go Go.Sx Go.Proofs Go.Nov
namespace Go.Proofs.Tryz
end Go.Proofs.Tryz
end

/- From a reading of the arguments to their representation; from a contract to a call. -/
section
namespace Go.Sx
variable [Stat]
open Go.RowKit (Below)
def E0 : Nat → Prop := Own (fun _ => False) []
theorem V4 (b : Nat) : ¬ E0 b := by
 rintro (h | ⟨e, he, _⟩)
 ·exact h
 ·simp at he
def Tw (P : Program) (W : World) (t : TypeId) (cs : List Value) : Prop := ∃ (H : Type) (enc : TypeId × Value → H) (base fuel : Nat) (d : DataW H) (ps : List MemPlace), DataW.trod enc P W base (fun _ => true) true fuel t cs = some (d, ps) ∧ ∀ n ∈ d.weights P t, n ≤ reachBytes
section
variable {P : Program} {W : World} {t e : TypeId} {cs : List Value}
theorem xK (ht : P.underlying t = some .string) (h : Tw P W t cs) : ∃ s : List UInt8, cs = [.string ⟨s.toArray⟩] ∧ s.length ≤ reachBytes := by
 obtain ⟨H, enc, base, fuel, d, ps, h, hw⟩ := h
 obtain ⟨s, rfl, hx, _⟩ := DataW.trod_string ht h
 cases hx
 exact ⟨s.data.toList, by simp, hw _ (by simp [DataW.weights])⟩
theorem zbr {k : IntKind} (ht : P.underlying t = some (.int k)) (h : Tw P W t cs) : ∃ n, cs = [.int k n] ∧ (Lit.int k n).wf = true := by
 obtain ⟨H, enc, base, fuel, d, ps, h, hw⟩ := h
 obtain ⟨n, rfl, hx, hwf⟩ := DataW.trod_int ht h
 exact ⟨n, rfl, hwf⟩
theorem zet (ht : P.underlying t = some .bool) (h : Tw P W t cs) : ∃ b, cs = [.bool b] := by
 obtain ⟨H, enc, base, fuel, d, ps, h, hw⟩ := h
 obtain ⟨b, rfl, hx⟩ := DataW.trod_bool ht h
 exact ⟨b, rfl⟩
theorem U9 {fs : Array Field} (ht : P.underlying t = some (.struct fs)) (h : Tw P W t cs) : cs.length = P.cellsOf t ∧ ∀ (i : Nat) (f : Field), fs[i]? = some f → Tw P W f.type ((cs.drop f.offset).take (P.cellsOf f.type)) := by
 obtain ⟨H, enc, base, fuel, d, ps, h, hw⟩ := h
 obtain ⟨xs, n, _, hx, hl, hlen, hf⟩ := DataW.trod_struct ht h
 cases hx
 refine ⟨hl, fun i f hfi => ?_⟩
 have hi := hf i f hfi
 have hlt : i < xs.length := by
  rw [hlen]; exact (Array.getElem?_eq_some_iff.1 hfi).1
 rw [List.getElem?_eq_getElem hlt] at hi
 refine ⟨H, enc, base, n, xs[i].1, xs[i].2, hi, fun m hm => hw m ?_⟩
 simp only [DataW.weights, ht]
 exact DataW.weights_mem_each (j := i) (t := f.type) (d := xs[i].1) (by simp [hfi]) (by simp [hlt]) m hm
theorem kB {H : Type} {d : DataW H} : ∀ {l : List (DataW H)}, d ∈ l → ∀ n ∈ d.weights P e, n ∈ DataW.weightsAll P e l
 | x :: l, hd, n, hn => by
  simp only [DataW.weightsAll, List.mem_append]
  rcases List.mem_cons.1 hd with rfl | hd
  ·exact .inl hn
  ·exact .inr (kB hd n hn)
theorem zb2 (ht : P.underlying t = some (.slice e)) (h : Tw P W t cs) : cs = [.slice none 0 0] ∨ ∃ (a : Addr) (len cap : Nat), cs = [.slice (some a) len cap] ∧ len ≤ cap ∧ cap * P.bytesOf e ≤ reachBytes ∧
  ∀ i, i < len → ∃ cs', cs'.length = P.cellsOf e ∧ (∀ o, o < P.cellsOf e → W.cell? ((a.add (i * P.cellsOf e)).add o) = cs'[o]?) ∧ Tw P W e cs' := by
 obtain ⟨H, enc, base, fuel, d, ps, h, hw⟩ := h
 rcases DataW.trod_slice ht h with ⟨rfl, _⟩ | ⟨a, len, cap, elems, rest, n, _, rfl, hx, hb, hl, hm, hlen, hel, hsp, _⟩
 ·exact .inl rfl
 ·right
  cases hx
  obtain ⟨hrl, _⟩ := hsp rfl
  simp only [DataW.weights, ht] at hw
  refine ⟨a, len, cap, rfl, hl, ?_, fun i hi => ?_⟩
  ·have := hw _ (List.mem_cons_self)
   simp only [List.length_map, hlen, hrl] at this
   rwa [show len + (cap - len) = cap by omega] at this
  ·have h1 := hel i hi
   have hlt : i < elems.length := by rw [hlen]; exact hi
   rw [List.getElem?_eq_getElem hlt, Option.bind_eq_some_iff] at h1
   obtain ⟨cs', h2, h3⟩ := h1
   obtain ⟨_, h4, h5⟩ := World.cells?_some h2
   refine ⟨cs', h4, h5, H, enc, base, n, elems[i].1, elems[i].2, h3, fun m hm2 => hw m ?_⟩
   simp only [List.mem_cons, List.mem_append]
   exact .inr (.inl (kB (d := elems[i].1) (List.mem_map.2 ⟨elems[i], List.getElem_mem hlt, rfl⟩) m hm2))
theorem YE {α : Type} (z : α) (cell : α → Nat → AV) (good : α → Prop) {sz : Nat} (ht : P.underlying t = some (.slice e)) (hsz : P.cellsOf e = sz) (hpos : 0 < sz)
  (hel : ∀ cs', Tw P W e cs' → ∃ x : α, good x ∧ ∀ o, o < sz → ∃ c, cs'[o]? = some c ∧ c.oneCell' = true ∧ Rep E0 W (cell x o) [] c) (h : Tw P W t cs) :
  ∃ (l : List α) (v : Value), cs = [v] ∧ (∀ x ∈ l, good x) ∧ l.length * P.bytesOf e ≤ reachBytes ∧ v.oneCell' = true ∧ Rep E0 W (.sl l.length sz fun j => cell (l.getD j z)) [] v := by
 rcases zb2 ht h with rfl | ⟨a, len, cap, rfl, hl, hw, hx⟩
 ·refine ⟨[], _, rfl, by simp, by simp, rfl, ?_⟩
  simp only [Rep]
  exact ⟨none, 0, rfl, Nat.le_refl _, .inl rfl⟩
 ·rw [hsz] at hx
  have hx2 : ∀ i, ∃ x : α, i < len → good x ∧ ∀ o, o < sz → ∃ c, W.cell? ((a.add (i * sz)).add o) = some c ∧ c.oneCell' = true ∧ Rep E0 W (cell x o) [] c := fun i => by
   by_cases hi : i < len
   ·obtain ⟨cs', h1, h2, h3⟩ := hx i hi
    obtain ⟨x, hg, hc⟩ := hel cs' h3
    exact ⟨x, fun _ => ⟨hg, fun o ho => by
     obtain ⟨c, g1, g2, g3⟩ := hc o ho
     exact ⟨c, by rw [h2 o ho, g1], g2, g3⟩⟩⟩
   ·exact ⟨z, fun h => absurd h hi⟩
  obtain ⟨f, hf⟩ := Classical.axiomOfChoice hx2
  have hgd : ∀ j, j < len → ((List.range len).map f).getD j z = f j := fun j hj => by simp [List.getD, hj]
  refine ⟨(List.range len).map f, _, rfl, fun x hxm => ?_, ?_, rfl, ?_⟩
  ·obtain ⟨i, hi, rfl⟩ := List.mem_map.1 hxm
   exact (hf i (List.mem_range.1 hi)).1
  ·simp only [List.length_map, List.length_range]
   exact Nat.le_trans (Nat.mul_le_mul_right _ hl) hw
  ·simp only [Rep, List.length_map, List.length_range]
   refine ⟨some a, cap, rfl, hl, ?_⟩
   rcases Nat.eq_zero_or_pos len with h0 | h0
   ·exact .inl h0
   ·right
    have hspot : a.spot = none := by
     obtain ⟨c, g1, _⟩ := (hf 0 h0).2 0 hpos
     have := World.cell?_spot g1
     simpa [Addr.add] using this
    refine ⟨a, rfl, hspot, fun j o hj ho => ⟨V4 _, ?_⟩⟩
    obtain ⟨c, g1, g2, g3⟩ := (hf j hj).2 o ho
    refine ⟨c, ?_, g2, by rw [hgd j hj]; exact g3⟩
    rw [← g1]
    obtain ⟨b, off, spot⟩ := a
    simp only at hspot
    subst hspot
    congr 1
    simp only [Addr.add]
    split <;> split <;> simp_all <;> omega
theorem Ut {g : Nat} {fn : Func} {c : Code} (hf : P.funcs[g]? = some fn) (hb : fn.body = some c) (hn : (fn.name == "runtime.NumGoroutine") = false) {ctr : Ctr} (hok : zd P g ctr) {args : List AV} {vals : List Value}
  (hspec : (ctr.spec args []).holds fun r => r = (.bool true, [])) (hr : RepL E0 W args [] vals) (hst : wV E0 W) : Calls P g vals.toArray W fun e W' => e = .returned (.bool true) ∧ Below W.heap.size W W' := by
 have hn' : ¬ fn.name = "runtime.NumGoroutine" := by simpa using hn
 have hg : Good (fun _ => False) W [] := ⟨fun b h => h.elim, fun i e ad he => by simp at he, hst⟩
 have hh : HRep (Own (fun _ => False) []) W [] [] := ⟨rfl, fun i j e f a b he => by simp at he, fun i e a he => by simp at he, fun i e b he => by simp at he⟩
 rcases hok args [] _ hspec (fun _ => rfl) (fun _ => False) W [] vals hg hh hr with ⟨_, h⟩ | ⟨v, w', h, _⟩
 ·refine h.mono ?_
  rintro e W' ⟨v, rfl, r, hs, σ', hq, h1, _, _, _, _, hx⟩
  cases hq
  simp only [Rep] at h1
  subst h1
  exact ⟨rfl, hx.os, hx.tape, hx.output, hx.size, fun k hk => hx.keep k hk fun ⟨e, he, _⟩ => by simp at he⟩
 ·simp [callFunc, hf, hn', hb] at h
end
end Go.Sx
end

/- Recursive data as arguments; package-level maps that read as they are laid. -/
section
namespace Go.Sx
variable [Stat]
section
variable {P : Program} {W : World} {t e : TypeId} {cs : List Value}
theorem zby {H : Type} {enc : TypeId × Value → H} {base : Nat} {sp : Nat → Bool} {held : Bool} {fuel : Nat} {kd : IntKind} {ps : List Int} {q : List MemPlace} (ht : P.underlying t = some (.slice e)) (he : P.underlying e = some (.int kd)) (hc : P.cellsOf e = 1) (hne : ps ≠ [])
  (h : DataW.trod enc P W base sp held fuel t cs = some (.slice (ps.map fun z => .lit (.int kd z)) [], q)) : ∃ c, cs = [c] ∧ c.oneCell' = true ∧ Rep E0 W (.sl ps.length 1 fun j _ => .int kd (ps.getD j 0)) [] c := by
 obtain ⟨a, cap, rfl, hl, hel⟩ := open_row ht hc h
 refine ⟨_, rfl, rfl, ?_⟩
 simp only [List.length_map] at hl
 have hv : ∀ j, j < ps.length → W.cell? (a.add j) = some (.int kd (ps.getD j 0)) := fun j hj => by
  obtain ⟨v, n, q', h1, h2⟩ := hel j (.lit (.int kd (ps.getD j 0))) (by simp [List.getD, hj])
  obtain ⟨m, h3, h4, _⟩ := DataW.trod_int he h2
  simp only [List.cons.injEq, and_true] at h3
  simp only [Prod.mk.injEq, DataW.lit.injEq, Lit.int.injEq, true_and] at h4
  rw [h1, h3, h4.1]
 simp only [Rep, List.length_map]
 refine ⟨some a, cap, rfl, hl, .inr ⟨a, rfl, ?_, fun j o hj ho => ⟨V4 _, .int kd (ps.getD j 0), ?_, rfl, rfl⟩⟩⟩
 ·have := World.cell?_spot (hv 0 (List.length_pos_iff.2 hne))
  simpa [Addr.add] using this
 ·have : o = 0 := by omega
  subst this
  have hs : a.spot = none := by
   have := World.cell?_spot (hv 0 (List.length_pos_iff.2 hne))
   simpa [Addr.add] using this
  rw [← hv j hj]
  obtain ⟨b, off, spot⟩ := a
  simp only at hs
  subst hs
  congr 1
  simp only [Addr.add]
  split <;> simp_all
end
section
open Go.WideElems Go.ChangeMaps
variable {H : Type} {enc : TypeId × Value → H} {P : Program} {W : World} {base : Nat} {sp : Nat → Bool} {held : Bool}
theorem ZG {x : Lit × DataW H} : ∀ {l : List (Lit × DataW H)}, x ∈ l.foldr DataW.insert [] ↔ x ∈ l
 | [] => Iff.rfl
 | y :: l => by rw [List.foldr_cons, mem_insert_iff, ZG, List.mem_cons]
theorem XB {g : Nat} {t k e : TypeId} {kd : IntKind} {ag : Bool} {sz : Nat} {ks : List Int} {has : Int → Bool} {get : Int → Nat → AV} {fuel : Nat} {c : Value} {es0 : List (Lit × DataW H)} {q : List MemPlace}
  (hg : (Stat.z g).isSome = true) (ht : P.underlying t = some (.map k e)) (hk : P.underlying k = some (.int kd)) (hc : W.cell? ⟨g, 0, none⟩ = some c) (hne : es0 ≠ [])
  (h : DataW.trod enc P W base sp held fuel t [c] = some (.map es0, q))
  (hin : ∀ (n : Int) (d : DataW H), (.int kd n, d) ∈ es0 → has n = true ∧ ∀ (v : Value) (m : Nat) (q : List MemPlace), v.formed P e = true → DataW.trod enc P W base sp held m e v.cells.toList = some (d, q) →
   match ag with
   | true => ∃ vs : List Value, v = .agg vs.toArray ∧ vs.length = sz ∧ ∀ o, o < sz → ∃ c, vs[o]? = some c ∧ Rep E0 W (get n o) [] c
   | false => Rep E0 W (get n 0) [] v)
  (hout : ∀ n, has n = true → ∃ d, (.int kd n, d) ∈ es0) : Rep E0 W (.mp kd ag sz ks has get) [] c ∧ ∀ b, c = .map (some b) → b < W.heap.size := by
 rcases open_map ht h with ⟨_, hx⟩ | ⟨b, es, clock, n, _, hcs, hb, _, F, hx⟩
 ·simp at hx
 ·simp only [List.cons.injEq, and_true] at hcs
  subst hcs
  simp only [Prod.mk.injEq, DataW.map.injEq] at hx
  have hkey : ∀ x ∈ es.toList, ∃ (m : Int) (z : DataW H × List MemPlace), x.key = .int kd m ∧ elemAt enc P W base sp held n e x.val = some z ∧ (.int kd m, z.1) ∈ es0 := by
   intro x hxm
   obtain ⟨y, hy⟩ := F.reads x hxm
   have h1 := rd_key hy
   obtain ⟨z, h2, h3⟩ := rd_val hy
   have h4 : y ∈ es0 := by rw [hx.1, ZG]; exact List.mem_map.2 ⟨x, hxm, rg_of hy⟩
   have h5 : mapKey P k x.key = some y.1 := by
    simp only [keyOf, hk] at h1
    exact h1
   unfold mapKey at h5
   rw [hk] at h5
   cases hxk : x.key with
   | int k' m =>
    rw [hxk] at h5
    simp only at h5
    split at h5
    ·rename_i hc2
     have h6 := Option.some.inj h5
     obtain ⟨rfl, _⟩ := hc2
     refine ⟨m, z, rfl, h2, ?_⟩
     rw [h6, ← h3]; exact h4
    ·cases h5
   | _ => rw [hxk] at h5; simp at h5
  have hlt : b < W.heap.size := (Array.getElem?_eq_some_iff.1 hb).1
  refine ⟨?_, fun b' hb' => by cases hb'; exact hlt⟩
  simp only [Rep]
  refine ⟨b, es, clock, rfl, V4 _, ⟨g, V4 _, hg, hc⟩, hb, fun m => ?_⟩
  have hspec := MapKept.findNow_spec (d := .int kd) (k := .int kd m) (by simp [MapKept.IsKey]) es.toList 0 (fun x hxm => by
   obtain ⟨m', z, h1, _⟩ := hkey x hxm
   rw [h1]; simp [MapKept.IsKey])
  rcases hspec with ⟨h1, h2⟩ | ⟨j, x, h1, h2, h3⟩
  ·refine ⟨fun _ => h1, fun hm => ?_⟩
   obtain ⟨d, hd⟩ := hout m hm
   rw [hx.1, ZG] at hd
   obtain ⟨x, hxm, hrx⟩ := List.mem_map.1 hd
   obtain ⟨y, hy⟩ := F.reads x hxm
   rw [rg_of hy] at hrx
   have h5 := rd_key hy
   rw [hrx] at h5
   obtain ⟨m', z, g1, _⟩ := hkey x hxm
   have : keyOf P k x.key = some (.int kd m') := by
    rw [g1] at h5 ⊢
    simp only [keyOf, hk, mapKey] at h5 ⊢
    split at h5
    ·rename_i hwf; rw [if_pos hwf]
    ·cases h5
   rw [this] at h5
   cases h5
   exact absurd g1 (h2 x hxm)
  ·have hxm : x ∈ es.toList := List.mem_of_getElem? h2
   obtain ⟨m', z, g1, g2, g3⟩ := hkey x hxm
   rw [h3] at g1
   cases g1
   obtain ⟨hh, hrep⟩ := hin m z.1 g3
   refine ⟨fun hf => (by rw [hf] at hh; cases hh), fun _ => ⟨_, x.val, h1, ?_⟩⟩
   unfold elemAt at g2
   split at g2
   ·rename_i hfm
    exact hrep x.val n z.2 hfm g2
   ·cases g2
end
end Go.Sx
end

/- What rows hand to laws: arguments as data. -/
section
set_option maxRecDepth 100000
namespace Go.Proofs.YtpmofcdjkhmdaaaGreatDoor
open Go Go.Sx Go.Nov Go.Proofs.Tryz Go.ChangeShapes Go.WideShapes Go.ChangeAt Go.RowKit
theorem xo : Tryz.prog.cellsOf 9 = 1 := by kernel_rfl
theorem J6 : Tryz.prog.cellsOf 22 = 1 := by kernel_rfl
theorem Uq : Tryz.prog.cellsOf 3 = 1 := by kernel_rfl
theorem zdo {W : World} {t : TypeId} {cs : List Value} (ht : Tryz.prog.underlying t = some .string) (h : Tw Tryz.prog W t cs) : ∃ s : List UInt8, cs = [.string ⟨s.toArray⟩] ∧ s.length < 2 ^ 49 ∧ Rep E0 W (.str s) [] (.string ⟨s.toArray⟩) := by
 obtain ⟨s, rfl, hs⟩ := xK ht h
 have hr := reachBytes_lt
 exact ⟨s, rfl, by omega, by simp [Rep]⟩
theorem zeh {W : World} {cs : List Value} (h : Tw Tryz.prog W 3 cs) : ∃ n : Int, cs = [.int .i64 n] ∧ inR .i64 n ∧ Rep E0 W (.int .i64 n) [] (.int .i64 n) := by
 obtain ⟨n, rfl, hn⟩ := zbr Tryz.underlying3 h
 refine ⟨n, rfl, ?_, by simp [Rep]⟩
 simp only [Lit.wf, Bool.and_eq_true, decide_eq_true_eq] at hn
 exact hn
theorem zb0 {W : World} {cs : List Value} (h : Tw Tryz.prog W 4 cs) : ∃ b : Bool, cs = [.bool b] ∧ True ∧ Rep E0 W (.bool b) [] (.bool b) := by
 obtain ⟨b, rfl⟩ := zet Tryz.underlying4 h
 exact ⟨b, rfl, trivial, by simp [Rep]⟩
end Go.Proofs.YtpmofcdjkhmdaaaGreatDoor
end

/- Terms of templates as data. -/
section
set_option maxRecDepth 100000
namespace Go.Proofs.YtpmofcdjkhmdaaaGreatDoor
open Go Go.Sx Go.Nov Go.Proofs.Tryz Go.ChangeShapes Go.WideShapes Go.ChangeAt Go.RowKit
theorem KN : Tryz.prog.cellsOf 104 = 6 := by kernel_rfl
theorem UY {W : World} {cs : List Value} (h : Tw Tryz.prog W 104 cs) : ∃ x : Deal, True ∧ Rep E0 W x.av [] (.agg cs.toArray) := by
 obtain ⟨hl, hf⟩ := U9 Tryz.underlying104 h
 rw [KN] at hl
 match cs, hl with
 | [a, b, c, d, e, f], _ =>
  have h0 : Tw Tryz.prog W 9 (([a, b, c, d, e, f].drop 0).take (Tryz.prog.cellsOf 9)) := hf 0 _ rfl
  rw [xo] at h0
  replace h0 : Tw Tryz.prog W 9 [a] := h0
  have h1 : Tw Tryz.prog W 9 (([a, b, c, d, e, f].drop 1).take (Tryz.prog.cellsOf 9)) := hf 1 _ rfl
  rw [xo] at h1
  replace h1 : Tw Tryz.prog W 9 [b] := h1
  have h2 : Tw Tryz.prog W 9 (([a, b, c, d, e, f].drop 2).take (Tryz.prog.cellsOf 9)) := hf 2 _ rfl
  rw [xo] at h2
  replace h2 : Tw Tryz.prog W 9 [c] := h2
  have h3 : Tw Tryz.prog W 9 (([a, b, c, d, e, f].drop 3).take (Tryz.prog.cellsOf 9)) := hf 3 _ rfl
  rw [xo] at h3
  replace h3 : Tw Tryz.prog W 9 [d] := h3
  have h4 : Tw Tryz.prog W 22 (([a, b, c, d, e, f].drop 4).take (Tryz.prog.cellsOf 22)) := hf 4 _ rfl
  rw [J6] at h4
  replace h4 : Tw Tryz.prog W 22 [e] := h4
  have h5 : Tw Tryz.prog W 22 (([a, b, c, d, e, f].drop 5).take (Tryz.prog.cellsOf 22)) := hf 5 _ rfl
  rw [J6] at h5
  replace h5 : Tw Tryz.prog W 22 [f] := h5
  obtain ⟨x0, y0, w0⟩ := xK Tryz.underlying9 h0
  obtain ⟨x1, y1, w1⟩ := xK Tryz.underlying9 h1
  obtain ⟨x2, y2, w2⟩ := xK Tryz.underlying9 h2
  obtain ⟨x3, y3, w3⟩ := xK Tryz.underlying9 h3
  obtain ⟨x4, y4, w4⟩ := xK Tryz.underlying22 h4
  obtain ⟨x5, y5, w5⟩ := xK Tryz.underlying22 h5
  cases y0; cases y1; cases y2; cases y3; cases y4; cases y5
  refine ⟨⟨x0, x1, x2, x3, x4, x5⟩, trivial, ?_⟩
  simp only [RepL, Rep, Deal.av]
  exact ⟨_, rfl, _, _, rfl, rfl, _, _, rfl, rfl, _, _, rfl, rfl, _, _, rfl, rfl, _, _, rfl, rfl, _, _, rfl, rfl, rfl⟩
theorem za8 {W : World} {cs : List Value} (h : Tw Tryz.prog W 50 cs) : ∃ (v : Value) (l : List Int), cs = [v] ∧ l.length < 2 ^ 45 ∧ Rep E0 W (Con.dayS l) [] v := by
 obtain ⟨l, v, e1, gl, wl, _, rl⟩ := YE 0 (fun (x : Int) _ => AV.int .i64 x) (fun _ => True) Tryz.underlying50 Uq (by decide) (fun cs' h' => by
   obtain ⟨x, rfl, hx⟩ := zbr Tryz.underlying3 h'
   refine ⟨x, trivial, fun o ho => ?_⟩
   match o, ho with
   | 0, _ => exact ⟨_, rfl, rfl, by simp [Rep]⟩) h
 have b1 : Tryz.prog.bytesOf 3 = 8 := by kernel_rfl
 rw [b1] at wl
 have hr := reachBytes_lt
 exact ⟨v, l, e1, by omega, rl⟩
end Go.Proofs.YtpmofcdjkhmdaaaGreatDoor
end

/- For every input the law returns true, and each argument reads behind the call as it read before. -/
section
set_option maxRecDepth 100000
namespace Go.Proofs.YtpmofcdjkhmdaaaGreatDoor
open Go Go.Sx Go.Nov Go.Proofs.Tryz Go.ChangeShapes Go.WideShapes Go.ChangeAt Go.RowKit
theorem Vz : Tryz.prog.cellsOf 163 = 1 := by kernel_rfl
theorem zd8 : Tryz.prog.cellsOf 249 = 1 := by kernel_rfl
theorem zbf : Tryz.prog.cellsOf 251 = 2 := by kernel_rfl
def shpE (H : Type) : List (Lit × DataW H) := shpL.map fun p => (.int .u8 p.1, .agg [.slice (p.2.1.map fun z => .lit (.int .u8 z)) [], .lit (.int .u8 p.2.2)])
theorem zdm : ∀ p ∈ shpL, Zu p.1 = some p.2 ∧ p.2.1 ≠ [] := by decide
theorem zec {k : Int} (h : w9 k = true) : ∃ q, (k, q) ∈ shpL := by
 unfold w9 Zu at h
 rw [Option.isSome_map] at h
 obtain ⟨p, hp⟩ := Option.isSome_iff_exists.1 h
 have h1 := List.find?_some hp
 have h2 := List.mem_of_find?_eq_some hp
 have : p.1 = k := by simpa using h1
 exact ⟨p.2, by rw [← this]; exact h2⟩
theorem KP {W : World} {cs : List Value} {fuel : Nat} {q : List MemPlace} {c : Value} (hc : W.cell? ⟨0, 0, none⟩ = some c)
  (h : DataW.trod (fun _ => ()) Tryz.prog W 0 (fun _ => true) false fuel 253 [c] = some (.map (shpE Unit), q)) :
  Rep E0 W (.mp .u8 true 2 [] (fun k => w9 k) fun k o => match o with
   | 0 => .sl (jn k) 1 fun j _ => .int .u8 (qy k j)
   | _ => .int .u8 (qU k)) [] c ∧ ∀ b, c = .map (some b) → b < W.heap.size := by
 refine XB (g := 0) rfl Tryz.underlying253 Tryz.underlying5 hc (by decide) h ?_ ?_
 ·intro n d hd
  obtain ⟨p, hp, he⟩ := List.mem_map.1 hd
  obtain ⟨h1, h2⟩ := zdm p hp
  simp only [Prod.mk.injEq, Lit.int.injEq, true_and] at he
  obtain ⟨rfl, rfl⟩ := he
  refine ⟨by simp [w9, h1], fun v m q' hf ht => ?_⟩
  obtain ⟨xs, n', _, hx, hl, hlen, hfs⟩ := DataW.trod_struct Tryz.underlying251 ht
  rw [zbf] at hl
  cases v with
  | agg cs =>
   simp only [Value.cells] at hl hfs
   obtain ⟨cs⟩ := cs
   simp only at hl hfs
   match cs, hl with
   | [a, b], _ =>
    have f0 : DataW.trod _ Tryz.prog W 0 _ false n' 249 (([a, b].drop 0).take (Tryz.prog.cellsOf 249)) = xs[0]? := hfs 0 _ rfl
    have f1 : DataW.trod _ Tryz.prog W 0 _ false n' 163 (([a, b].drop 1).take (Tryz.prog.cellsOf 163)) = xs[1]? := hfs 1 _ rfl
    rw [zd8] at f0
    rw [Vz] at f1
    match xs, hlen with
    | [x0, x1], _ =>
     simp only [List.map_cons, List.map_nil, Prod.mk.injEq, DataW.agg.injEq, List.cons.injEq, and_true] at hx
     obtain ⟨⟨hx0, hx1⟩, _⟩ := hx
     have f0 : DataW.trod _ Tryz.prog W 0 _ false n' 249 [a] = some x0 := f0
     have f1 : DataW.trod _ Tryz.prog W 0 _ false n' 163 [b] = some x1 := f1
     obtain ⟨x0a, x0b⟩ := x0
     obtain ⟨x1a, x1b⟩ := x1
     simp only at hx0 hx1
     subst hx0; subst hx1
     obtain ⟨c0, e0, _, hr⟩ := zby Tryz.underlying249 Tryz.underlying163 Vz h2 f0
     cases e0
     obtain ⟨z, e1, e2, _⟩ := DataW.trod_int Tryz.underlying163 f1
     cases e1
     simp only [Prod.mk.injEq, DataW.lit.injEq, Lit.int.injEq, true_and] at e2
     refine ⟨[a, .int .u8 z], rfl, rfl, fun o ho => ?_⟩
     have g1 : qO p.1 = p.2.1 := by simp [qO, h1]
     have g2 : qU p.1 = p.2.2 := by simp [qU, h1]
     match o, ho with
     | 0, _ =>
      refine ⟨a, rfl, ?_⟩
      show Rep E0 W (.sl (jn p.1) 1 fun j _ => .int .u8 (qy p.1 j)) [] a
      unfold jn qy
      rw [g1]
      exact hr
     | 1, _ =>
      refine ⟨_, rfl, ?_⟩
      show Rep E0 W (.int .u8 (qU p.1)) [] _
      simp only [Rep]
      rw [g2, e2.1]
  | _ => simp [Value.formed, Tryz.underlying251] at hf
 ·intro n hn
  obtain ⟨q', hq⟩ := zec hn
  exact ⟨_, List.mem_map.2 ⟨_, hq, rfl⟩⟩
end Go.Proofs.YtpmofcdjkhmdaaaGreatDoor
end

/- What the package-level variables hold when a law begins: shapes of expressions, parts of contracts. -/
section
set_option maxRecDepth 100000
namespace Go.Proofs.YtpmofcdjkhmdaaaGreatDoor
open Go Go.Sx Go.Nov Go.Proofs.Tryz Go.ChangeShapes Go.WideShapes Go.ChangeAt Go.RowKit
theorem zf1 : Tryz.prog.globalNamed "novation/observable.shapes" = some 0 := by kernel_rfl
theorem zew : (Tryz.prog.globals[0]?).map (·.type) = some 253 := by kernel_rfl
theorem ze5 : (Rows.laid_novation_observable_shapes : DataW Unit) = .map (shpE Unit) := rfl
theorem zgd : Tryz.prog.globalNamed "novation/contract.parts" = some 1 := by kernel_rfl
theorem zgh : (Tryz.prog.globals[1]?).map (·.type) = some 263 := by kernel_rfl
def prtE : List (Lit × DataW Unit) := [(.int .u8 1, .lit (.int .i64 0)), (.int .u8 2, .lit (.int .i64 15)), (.int .u8 3, .lit (.int .i64 256)), (.int .u8 4, .lit (.int .i64 136)), (.int .u8 5, .lit (.int .i64 272)), (.int .u8 6, .lit (.int .i64 160)), (.int .u8 7, .lit (.int .i64 261)), (.int .u8 8, .lit (.int .i64 197)), (.int .u8 9, .lit (.int .i64 208)), (.int .u8 10, .lit (.int .i64 208))]
theorem zaj : (Rows.laid_novation_contract_parts : DataW Unit) = .map prtE := rfl
abbrev VW : List (String × DataW Unit) := [("novation/observable.shapes", Rows.laid_novation_observable_shapes), ("novation/contract.parts", Rows.laid_novation_contract_parts)]
theorem U6 {W : World} {cs : List Value} {fuel : Nat} {q : List MemPlace} {c : Value} (hc : W.cell? ⟨1, 0, none⟩ = some c)
  (h : DataW.trod (fun _ => ()) Tryz.prog W 0 (fun _ => true) false fuel 263 [c] = some (.map prtE, q)) :
  Rep E0 W (.mp .u8 false 1 [] (fun k => decide (1 ≤ k ∧ k ≤ 10)) fun k _ => .int .i64 (ka k)) [] c ∧ ∀ b, c = .map (some b) → b < W.heap.size := by
 refine XB (g := 1) rfl Tryz.underlying263 Tryz.underlying5 hc (by decide) h ?_ ?_
 ·intro n d hd
  have one : ∀ {v : Value} {m : Nat} {q : List MemPlace} {z : Int}, v.formed Tryz.prog 3 = true → DataW.trod (fun _ => ()) Tryz.prog W 0 (fun _ => true) false m 3 v.cells.toList = some (.lit (.int .i64 z), q) → Rep E0 W (.int .i64 z) [] v := by
   intro v m q z hf ht
   have hcell : v.cells.toList = [v] := by
    cases v with
    | agg _ => simp [Value.formed, Tryz.underlying3] at hf
    | _ => rfl
   rw [hcell] at ht
   obtain ⟨z', e1, e2, _⟩ := DataW.trod_int Tryz.underlying3 ht
   cases e1
   simp only [Prod.mk.injEq, DataW.lit.injEq, Lit.int.injEq, true_and] at e2
   simp only [Rep]
   rw [e2.1]
  simp only [prtE, List.mem_cons, Prod.mk.injEq, Lit.int.injEq, true_and, List.not_mem_nil, or_false] at hd
  rcases hd with ⟨rfl, rfl⟩ | ⟨rfl, rfl⟩ | ⟨rfl, rfl⟩ | ⟨rfl, rfl⟩ | ⟨rfl, rfl⟩ | ⟨rfl, rfl⟩ | ⟨rfl, rfl⟩ | ⟨rfl, rfl⟩ | ⟨rfl, rfl⟩ | ⟨rfl, rfl⟩ <;> exact ⟨rfl, fun v m q hf ht => one hf ht⟩
 ·intro n hn
  have hn := of_decide_eq_true hn
  have : n = 1 ∨ n = 2 ∨ n = 3 ∨ n = 4 ∨ n = 5 ∨ n = 6 ∨ n = 7 ∨ n = 8 ∨ n = 9 ∨ n = 10 := by omega
  rcases this with rfl | rfl | rfl | rfl | rfl | rfl | rfl | rfl | rfl | rfl <;> exact ⟨_, by unfold prtE; simp; rfl⟩
theorem zel {W : World} (h : laidMetH Tryz.prog VW W) : wV E0 W := by
 rw [MakeChecks.laidMetH_plain _ _ _ (by kernel_rfl)] at h
 obtain ⟨ps, ⟨g0, t0, cs0, f0, p0, q0, hg0, ht0, hv0, hd0, hr0, _⟩, _, _⟩ := h
 obtain ⟨g1, t1, cs1, f1, p1, q1, hg1, ht1, hv1, hd1, _, _⟩ := hr0
 obtain rfl := Option.some.inj (zf1.symm.trans hg0)
 obtain rfl := Option.some.inj (zew.symm.trans ht0)
 obtain rfl := Option.some.inj (zgd.symm.trans hg1)
 obtain rfl := Option.some.inj (zgh.symm.trans ht1)
 rw [ze5] at hd0
 rw [zaj] at hd1
 have hone : ∃ c, cs0.toList = [c] := by
  rcases Go.WideElems.open_map Tryz.underlying253 hd0 with ⟨hcs, _⟩ | ⟨b, es, clock, n, _, hcs, _⟩
  ·exact ⟨_, hcs⟩
  ·exact ⟨_, hcs⟩
 have hone1 : ∃ c, cs1.toList = [c] := by
  rcases Go.WideElems.open_map Tryz.underlying263 hd1 with ⟨hcs, _⟩ | ⟨b, es, clock, n, _, hcs, _⟩
  ·exact ⟨_, hcs⟩
  ·exact ⟨_, hcs⟩
 obtain ⟨c, hcs⟩ := hone
 obtain ⟨c', hcs'⟩ := hone1
 rw [hcs] at hd0
 rw [hcs'] at hd1
 have k1 : W.cell? ⟨0, 0, none⟩ = some c := by
  have := World.var?_cell hg0 hv0 0
  rw [Array.eq_one_of_toList hcs] at this
  simpa using this
 have k2 : W.cell? ⟨1, 0, none⟩ = some c' := by
  have := World.var?_cell hg1 hv1 0
  rw [Array.eq_one_of_toList hcs'] at this
  simpa using this
 obtain ⟨r1, b1⟩ := KP (cs := [c]) k1 hd0
 obtain ⟨r2, b2⟩ := U6 (cs := [c']) k2 hd1
 refine ⟨fun g a hz => ⟨V4 _, ?_⟩⟩
 by_cases hg : g = 0
 ·subst hg
  cases hz
  exact ⟨c, k1, r1, b1⟩
 ·by_cases hg2 : g = 1
  ·subst hg2
   cases hz
   exact ⟨c', k2, r2, b2⟩
  ·have : Stat.z g = none := by
    show (if _ then _ else if _ then _ else _) = _
    rw [if_neg hg, if_neg hg2]
   rw [this] at hz; cases hz
end Go.Proofs.YtpmofcdjkhmdaaaGreatDoor
end

/- For every input the law returns true, and each argument reads behind the call as it read before. -/
section
set_option maxRecDepth 100000
namespace Go.Proofs.YtpmofcdjkhmdaaaGreatDoor
open Go Go.Sx Go.Nov Go.Proofs.Tryz Go.ChangeShapes Go.WideShapes Go.ChangeAt Go.RowKit
theorem walk {W : World} {v0 v1 v2 v3 v4 : List Value} (h0 : Tw Tryz.prog W 104 v0) (h1 : Tw Tryz.prog W 3 v1) (h2 : Tw Tryz.prog W 9 v2) (h3 : Tw Tryz.prog W 50 v3) (h4 : Tw Tryz.prog W 4 v4) (hst : wV E0 W) :
  ∃ s1 : Value, v1 = [s1] ∧ ∃ s2 : Value, v2 = [s2] ∧ ∃ s3 : Value, v3 = [s3] ∧ ∃ s4 : Value, v4 = [s4] ∧ Calls Tryz.prog 9 #[.agg v0.toArray, s1, s2, s3, s4] W fun e W' => e = .returned (.bool true) ∧ Below W.heap.size W W' := by
 obtain ⟨d, dg, dr⟩ := UY h0
 obtain ⟨day, rfl, dayg, dayr⟩ := zeh h1
 obtain ⟨ch, rfl, chg, chr⟩ := zdo Tryz.underlying9 h2
 obtain ⟨s3, days, rfl, daysg, daysr⟩ := za8 h3
 obtain ⟨put, rfl, putg, putr⟩ := zb0 h4
 refine ⟨_, rfl, ?_⟩
 refine ⟨_, rfl, ?_⟩
 refine ⟨_, rfl, ?_⟩
 refine ⟨_, rfl, ?_⟩
 refine Ut (fn := Tryz.f9) (c := Tryz.f9.body.getD .skip) rfl rfl rfl zck (args := [d.av, .int .i64 day, .str ch, Con.dayS days, .bool put]) (vals := [.agg v0.toArray, .int .i64 day, .string ⟨ch.toArray⟩, s3, .bool put]) ?_ ?_ hst
 ·refine ⟨⟨d, day, ch, days, put⟩, ⟨?_, daysg⟩, ⟨true, rfl⟩, ?_⟩
  ·simp [eqL, eqA, eqA0, eqL0, envA, fxS, chS, Fx.av, Ch.av, Ex.exA, Ex.exS, Deal.av,Con.dayS, za]
  ·rintro _ rfl
   rfl
 ·exact ⟨_, _, rfl, dr, ⟨_, _, rfl, dayr, ⟨_, _, rfl, chr, ⟨_, _, rfl, daysr, ⟨_, _, rfl, putr, rfl⟩⟩⟩⟩⟩
theorem own : ownKnob Tryz.prog.godebug = none := by kernel_rfl
theorem laid : laidOutB Tryz.prog = true := by kernel_rfl
theorem zai (os : Os) (args : Array Value) : laidMetH Tryz.prog VW ((World.doorLaid Tryz.prog 400 os).forCall (fun _ _ => 0) ⟨#[], args, []⟩).memory :=
 laidMetH_of_parts3 (fuel := 8) (laidMet_of_run' 8 (by kernel_rfl) (by kernel_rfl)) (by kernel_rfl) (by kernel_rfl)
theorem lifted (os : Os) (started : os.Started) (H : Type) (enc : TypeId × Value → H) :
  ReturnsInHanded {} Tryz.checked os 9 .any (fun w args => (Rows.templateDealsSpec.pre enc Tryz.prog Tryz.f9 [] false w args ∧ laidMetH Tryz.prog VW w) ∧ sizedMet enc Tryz.prog Tryz.f9 (OpenSpec.ofChange Rows.templateDealsSpec) false w args)
   (Rows.templateDealsSpec.post enc Tryz.prog Tryz.f9 false true false false) := by
 refine returnsInHanded_of_change_and (C := Tryz.checked) (X := fun w _ => laidMetH Tryz.prog VW w) (fun _ _ _ hh h => h.of_heap hh) own started (by kernel_rfl) Tryz.func9
  (ChangeSpec.witness_shaped (enc := enc) (C := Tryz.checked) (os := os) (X := fun w _ => laidMetH Tryz.prog VW w) false (World.doorLaid Tryz.prog 400 os) #[.agg #[.string ⟨#[]⟩, .string ⟨#[]⟩, .string ⟨#[]⟩, .string ⟨#[]⟩, .string ⟨#[]⟩, .string ⟨#[]⟩], .int .i64 0, .string ⟨#[]⟩, .slice none 0 0, .bool false] 8 rfl (World.shaped_of_RefB (by kernel_rfl) (by kernel_rfl)) (by kernel_rfl) (by kernel_rfl) (by kernel_rfl) (zai os _)) ?_
 intro W base args ds gs before hval0 hW hcnd hwt hL _
 have hval : ∀ (j : Nat) t v, Tryz.f9.params[j]? = some t → args[j]? = some v → Value.okWide Tryz.prog W .any base t v := hval0
 have hW' := hW
 obtain ⟨p, q, hA0, hV, rfl, hfz, hnd⟩ := hW
 have hA : DataW.TrodAll enc Tryz.prog W 0 (fun _ => true) true Tryz.f9.params.toList args.toList ds p := hA0
 rw [Tryz.params9] at hA hval
 obtain ⟨v0, vs0, d0, ds0, p0, q0, hargs, rfl, rfl, h0, r0⟩ := trodAll_cons hA
 obtain ⟨v1, vs1, d1, ds1, p1, q1, rfl, rfl, rfl, h1, r1⟩ := trodAll_cons r0
 obtain ⟨v2, vs2, d2, ds2, p2, q2, rfl, rfl, rfl, h2, r2⟩ := trodAll_cons r1
 obtain ⟨v3, vs3, d3, ds3, p3, q3, rfl, rfl, rfl, h3, r3⟩ := trodAll_cons r2
 obtain ⟨v4, vs4, d4, ds4, p4, q4, rfl, rfl, rfl, h4, r4⟩ := trodAll_cons r3
 obtain ⟨rfl, rfl, rfl⟩ := trodAll_nil r4
 obtain rfl : args = #[v0, v1, v2, v3, v4] := by cases args; simp_all
 obtain ⟨rfl, rfl⟩ := trodVars_none hV
 clear hA0 hval0
 simp only [List.append_nil] at hW' hwt
 have hw : ∀ (j : Nat) (t : TypeId) (d : DataW H), [104, 3, 9, 50, 4][j]? = some t → [d0, d1, d2, d3, d4][j]? = some d → ∀ n ∈ d.weights Tryz.prog t, n ≤ reachBytes := fun j t d ht hd n hn => by
  have := List.all_eq_true.1 hwt n (DataW.weights_mem_each (j := j) (t := t) (d := d) (by exact ht) (by exact hd) n hn)
  simpa using this
 obtain ⟨c0, rfl, _⟩ := okWide_struct Tryz.underlying104 (hval 0 104 v0 rfl rfl)
 obtain ⟨c1, rfl⟩ := okWide_int Tryz.underlying3 (hval 1 3 v1 rfl rfl)
 obtain ⟨c2, rfl⟩ := okWide_string Tryz.underlying9 (hval 2 9 v2 rfl rfl)
 obtain ⟨a3, l3, k3, rfl⟩ := okWide_slice Tryz.underlying50 (hval 3 50 v3 rfl rfl)
 obtain ⟨c4, rfl⟩ := okWide_bool Tryz.underlying4 (hval 4 4 v4 rfl rfl)
 have t0 : Tw Tryz.prog W 104 c0.toList := by
  obtain ⟨fuel, hf⟩ := h0
  exact ⟨H, enc, 0, fuel, d0, p0, by simpa [Value.cells] using hf, hw 0 _ d0 rfl rfl⟩
 have t1 : Tw Tryz.prog W 3 [.int .i64 c1] := by
  obtain ⟨fuel, hf⟩ := h1
  exact ⟨H, enc, 0, fuel, d1, p1, by simpa [Value.cells] using hf, hw 1 _ d1 rfl rfl⟩
 have t2 : Tw Tryz.prog W 9 [.string c2] := by
  obtain ⟨fuel, hf⟩ := h2
  exact ⟨H, enc, 0, fuel, d2, p2, by simpa [Value.cells] using hf, hw 2 _ d2 rfl rfl⟩
 have t3 : Tw Tryz.prog W 50 [.slice a3 l3 k3] := by
  obtain ⟨fuel, hf⟩ := h3
  exact ⟨H, enc, 0, fuel, d3, p3, by simpa [Value.cells] using hf, hw 3 _ d3 rfl rfl⟩
 have t4 : Tw Tryz.prog W 4 [.bool c4] := by
  obtain ⟨fuel, hf⟩ := h4
  exact ⟨H, enc, 0, fuel, d4, p4, by simpa [Value.cells] using hf, hw 4 _ d4 rfl rfl⟩
 have hlt : ∀ x ∈ p0 ++ (p1 ++ (p2 ++ (p3 ++ p4))), x.block < W.heap.size := fun x hx => by simpa using hW'.lt x (by simpa using hx)
 obtain ⟨s1, e1, s2, e2, s3, e3, s4, e4, hcall⟩ := walk t0 t1 t2 t3 t4 (zel hL)
 cases e1
 cases e2
 cases e3
 cases e4
 simp only [Array.toArray_toList] at hcall
 refine hcall.mono fun e W' ⟨he, hb⟩ => ?_
 subst he
 refine ⟨_, rfl, _, _, _, [], p0 ++ (p1 ++ (p2 ++ (p3 ++ p4))), [], hW', trodAll_mk1 (shut_bool Tryz.underlying4 true), ?_, rfl, hb.frame _, fun h => by cases h⟩
 have H := trodAll_cons_mk (Below.trod laid (by kernel_rfl) (of_decide_eq_true (by kernel_rfl)) h0 hb fun x hx => hlt x (by simp [hx])) (trodAll_cons_mk (Below.trod laid (by kernel_rfl) (of_decide_eq_true (by kernel_rfl)) h1 hb fun x hx => hlt x (by simp [hx])) (trodAll_cons_mk (Below.trod laid (by kernel_rfl) (of_decide_eq_true (by kernel_rfl)) h2 hb fun x hx => hlt x (by simp [hx])) (trodAll_cons_mk (Below.trod laid (by kernel_rfl) (of_decide_eq_true (by kernel_rfl)) h3 hb fun x hx => hlt x (by simp [hx])) (trodAll_cons_mk (Below.trod laid (by kernel_rfl) (of_decide_eq_true (by kernel_rfl)) h4 hb fun x hx => hlt x (by simp [hx])) (trodAll_mk0)))))
 simp only [List.append_nil] at H
 exact H
theorem over : Rows.templateDealsRow.holds Tryz.pinned (OpenSpec.ofChange Rows.templateDealsSpec) :=
 OpenClaim.holds_of_wide 9 Tryz.f9 rfl rfl rfl rfl rfl rfl rfl ⟨rfl, rfl, rfl, rfl, rfl⟩ rfl rfl rfl rfl rfl (by kernel_rfl) Tryz.func9 (by kernel_rfl)
  (of_decide_eq_true (by kernel_rfl)) (by unfold Func.isWrapper; first | (rw [if_pos (by decide +kernel)]; kernel_rfl) | (rw [if_neg (by decide +kernel)]; exact ⟨rfl, rfl⟩))
  (fun os started H enc _ => lifted os started H enc)
theorem xB : Rows.TemplateDealsSaid := over
theorem templateDeals_holds : Rows.TemplateDealsCardSaid :=
 Claim7.holds_tied_plain_at .later [] [.mappedDeep, .mapped] true (true, "959d5baafc7240aa5a4bb96c02a2fe013b65c1dd6bb6c5a1db4237804d1f2d71") false
  xB (fun _ h => by cases h) (by kernel_rfl) (fun _ h => by cases h) templateDeals_row_tie rfl ⟨rfl, rfl⟩ (by kernel_rfl) rfl
  (fun f fn hf hfn => by
   obtain rfl : f = 9 := Option.some.inj ((show Tryz.prog.funcNamed "novation/novationlaw16.TemplateDeals" = some 9 by kernel_rfl).symm.trans hf) |>.symm
   obtain rfl : fn = Tryz.f9 := (Option.some.inj (Tryz.func9.symm.trans hfn)).symm
   exact ⟨by kernel_rfl, fun j t ht => by
    rw [Tryz.params9] at ht
    have hm : t ∈ [104, 3, 9, 50, 4] := by simpa using Array.mem_of_getElem? ht
    have hall : ([104, 3, 9, 50, 4].all fun u => !Tryz.prog.wantsStandIn u) = true := by kernel_rfl
    exact (show Tryz.prog.wantsStandIn t = false by simpa using List.all_eq_true.1 hall t hm)⟩)
  (by kernel_rfl)
end Go.Proofs.YtpmofcdjkhmdaaaGreatDoor
end
