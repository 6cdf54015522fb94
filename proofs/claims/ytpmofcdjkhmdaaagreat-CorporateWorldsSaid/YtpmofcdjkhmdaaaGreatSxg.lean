/- Part 7 of the proof. -/
import Derived.Test.YtpmofcdjkhmdaaaGreatSxb
import Derived.Test.YtpmofcdjkhmdaaaGreatSxf
set_option linter.unusedVariables false
set_option linter.unusedSimpArgs false
set_option linter.unusedSectionVars false

/- The reference's integers: sums, products, quotients, comparisons. -/
section
set_option maxRecDepth 100000
open Go Go.Sx Go.Proofs Go.Nov
namespace Go.Proofs.Tryz
attribute [local simp] eqKV eqA eqA0 eqH eqB eqL eqL0
theorem Xp (neg : Bool) (x : Nat) : errI (qu neg x) = (wr neg x).2 ∧ ((wr neg x).2 = 0 → qu neg x = (wr neg x).1) := by
 unfold qu wr
 by_cases h0 : x = 0
 ·rw [if_pos h0, if_pos h0]; exact ⟨rfl, fun _ => rfl⟩
 ·rw [if_neg h0, if_neg h0]
  have e : errI (sgn neg (txt x)) = if 1000 < (dec x).length then 14 else 0 := by
   unfold errI
   rw [Ji h0]
   simp only [Wh h0, if_true]
   rw [xm h0]
  by_cases h1 : 1000 < (dec x).length
  ·rw [if_pos h1] at e ⊢
   exact ⟨e, fun h => (by cases h)⟩
  ·rw [if_neg h1] at e ⊢
   exact ⟨e, fun _ => rfl⟩
theorem yD {neg : Bool} {x : Nat} (h : room x) : qu neg x = (wr neg x).1 := (Xp neg x).2 (w6 h)
theorem zbp (neg : Bool) (x : Nat) : (qu neg x).length ≤ 1 + (dec x).length := by
 unfold qu
 by_cases h0 : x = 0
 ·rw [if_pos h0]; simp
 ·rw [if_neg h0]
  have := XL neg (txt x)
  rw [xm h0] at this
  omega
def zek : Ctr := ctrP true (fun p : List Nat × Bool => [nat6 p.1, .bool p.2]) (fun p => Ten.dig p.1 ∧ p.1.length < 2 ^ 31) (fun p r => r = wr p.2 (Ten.val p.1)) (fun _ r => (.tup [.str r.1, .int .i64 r.2], []))
noncomputable def GRr : Nat → Option Ctr := fun f => if f = 89 then some (uf) else if f = 105 then some (Jq) else none
theorem zfk : ∀ g c, GRr g = some c → zd Tryz.prog g c := okIf yb (okIf QL (zp))
theorem zdn : zd Tryz.prog 90 zek := by
 refine ze (fn := Tryz.f90) (c := Tryz.f90.body.getD .skip) rfl rfl rfl fun p hp O w0 Q hq => ?_
 obtain ⟨d, neg⟩ := p
 obtain ⟨hd, hl⟩ := hp
 replace hq := hq _ rfl
 simp only at hd hl hq
 refine zb.run hmix zfk [] 400 (T := .ex (fun (x : List Nat × Bool) => eqL [AV.sl d.length 1 (natG .i64 d), AV.bool neg] [AV.sl x.1.length 1 (natG .i64 x.1), AV.bool x.2] ∧ Ten.dig x.1 ∧ x.1.length < 1099511627776) fun n => .all (fun (r : List UInt8) => r = qu n.2 (Ten.val n.1)) fun n => .ex (fun (x : List UInt8) => eqL [AV.str n] [AV.str x] ∧ x.length < 1099511627776) fun n_1 => .all (fun (r : Int) => r = errI n_1) fun n_2 => .ite (!decide (n_2 = 0)) (.leaf (.ret [.str (Array.toList #[]), .int .i64 14] [])) (.leaf (.ret [.str n, .int .i64 0] []))) (by kernel_rfl) ?_
 simp only [Tree.holds, zc]
 have hlen : (dec (Ten.val d)).length ≤ d.length := vO (by have := Ten.zC hd; have hB : Ten.B = 10 := rfl; rw [hB] at this; exact this)
 have htl := zbp neg (Ten.val d)
 obtain ⟨t1, t2⟩ := Xp neg (Ten.val d)
 refine ⟨(d, neg), ⟨⟨⟨rfl, rfl, za _ _ _⟩, rfl, trivial⟩, hd, by show d.length < _; omega⟩, ⟨_, rfl⟩, ?_⟩
 rintro _ rfl
 refine ⟨qu neg (Ten.val d), ⟨by simp, by omega⟩, ⟨_, rfl⟩, ?_⟩
 intro e he
 rw [t1] at he
 refine ⟨fun h => ?_, fun h => ?_⟩
 ·have h : e ≠ 0 := by simpa using h
  rcases Ky neg (Ten.val d) with g | g
  ·exact absurd (he.trans g) h
  ·rw [g] at hq
   exact RetR.scal hq rfl (by simp [resV])
 ·have h : e = 0 := by simpa using h
  have g : (wr neg (Ten.val d)).2 = 0 := by rw [← he, h]
  have e2 : wr neg (Ten.val d) = (qu neg (Ten.val d), 0) := by rw [t2 g, ← g]
  rw [e2] at hq
  exact RetR.scal hq rfl (by simp [resV])
def zes : Ctr := ctrP true (fun s : List UInt8 => [.str s]) (fun s => errI s = 0 ∧ s.length < 2 ^ 40) (fun s r => r = (wz (-zI s)).1) (fun _ r => (.str r, []))
noncomputable def GRn : Nat → Option Ctr := fun f => if f = 89 then some (uf) else if f = 64 then some (vp) else none
theorem zf6 : ∀ g c, GRn g = some c → zd Tryz.prog g c := okIf yb (okIf vJ (zp))
theorem zfj {s : List UInt8} (h : errI s = 0) : (wz (-zI s)).1 = qu (!negI s) (numI s) := by
 rw [yD (qE h), Wu]
 congr 2
 unfold zI
 cases negI s <;> simp
theorem zdo : zd Tryz.prog 106 zes := by
 refine ze (fn := Tryz.f106) (c := Tryz.f106.body.getD .skip) rfl rfl rfl fun s hp O w0 Q hq => ?_
 obtain ⟨he, hl⟩ := hp
 replace hq := hq _ rfl
 refine zb.run hmix zf6 [] 400 (T := .ex (fun (x : List UInt8) => eqL [AV.str s] [AV.str x] ∧ x.length < 1099511627776) fun n => .all (fun (r : List Nat × Bool × Bool) => r = digR n) fun n => .ex (fun (x : List Nat × Bool) => eqL [AV.sl n.1.length 1 (natG .i64 n.1), AV.bool !Prod.fst n.2] [AV.sl x.1.length 1 (natG .i64 x.1), AV.bool x.2] ∧ Ten.dig x.1 ∧ x.1.length < 1099511627776) fun n => .all (fun (r : List UInt8) => r = qu n.2 (Ten.val n.1)) fun n => .leaf (.ret [.str n] [])) (by kernel_rfl) ?_
 simp only [Tree.holds, zc]
 obtain ⟨a1, a2, a3, a4⟩ := wq he
 rw [zfj he, ← a4] at hq
 refine ⟨s, ⟨by simp, hl⟩, ⟨_, rfl⟩, ?_⟩
 rintro _ rfl
 rw [a1]
 refine ⟨(dg (parse s).2, !(parse s).1), ⟨⟨⟨rfl, rfl, za _ _ _⟩, rfl, trivial⟩, a2, by show (dg (parse s).2).length < _; omega⟩, ⟨_, rfl⟩, ?_⟩
 rintro _ rfl
 exact RetR.scal hq rfl (by simp [resV, negI])
noncomputable def GRa : Nat → Option Ctr := fun f => if f = 86 then some (Xh) else if f = 64 then some (vp) else if f = 93 then some (Ut) else if f = 95 then some (JZ) else if f = 94 then some (y5) else if f = 90 then some (zek) else if f = 91 then some (Jr) else if f = 87 then some (zav) else if f = 88 then some (Wy) else if f = 89 then some (uf) else none
theorem Kk : ∀ g c, GRa g = some c → zd Tryz.prog g c := okIf Jp (okIf vJ (okIf zb4 (okIf QT (okIf x6 (okIf zdn (okIf YE (okIf Xu (okIf XE (okIf yb (zp))))))))))
def Ub : Ctr := ctrP true (fun p : List UInt8 × List UInt8 => [.str p.1, .str p.2]) (fun p => p.1.length < 2 ^ 40 ∧ p.2.length < 2 ^ 40) (fun p r => r = addI p.1 p.2) (fun _ r => (.tup [.str r.1, .int .i64 r.2], []))
def UD : Ctr := ctrP true (fun p : List UInt8 × List UInt8 => [.str p.1, .str p.2]) (fun p => p.1.length < 2 ^ 40 ∧ p.2.length < 2 ^ 40) (fun p r => r = mulI p.1 p.2) (fun _ r => (.tup [.str r.1, .int .i64 r.2], []))
def rdmC : Ctr := ctrP true (fun p : List UInt8 × List UInt8 => [.str p.1, .str p.2]) (fun p => p.1.length < 2 ^ 40 ∧ p.2.length < 2 ^ 40) (fun p r => r = dmI p.1 p.2) (fun _ r => (.tup [.str r.1, .str r.2.1, .int .i64 r.2.2], []))
theorem eqL2 (a b : List Nat) : eqL [AV.sl a.length 1 (natG .i64 a), AV.sl b.length 1 (natG .i64 b)] [nat6 a, nat6 b] := ⟨⟨rfl, rfl, za _ _ _⟩, ⟨rfl, rfl, za _ _ _⟩, trivial⟩
theorem eqLb (a : List Nat) (b : Bool) : eqL [AV.sl a.length 1 (natG .i64 a), .bool b] [nat6 a, .bool b] := ⟨⟨rfl, rfl, za _ _ _⟩, rfl, trivial⟩
theorem zcn : zd Tryz.prog 71 Ub := by
 refine ze (fn := Tryz.f71) (c := Tryz.f71.body.getD .skip) rfl rfl rfl fun p hp O w0 Q hq => ?_
 obtain ⟨s, t⟩ := p
 obtain ⟨hs, ht⟩ := hp
 replace hq := hq _ rfl
 simp only at hs ht hq
 refine zb.run hmix Kk [] 400 (T := .ex (fun (x : List UInt8 × List UInt8) => eqL [AV.str s, AV.str t] [AV.str x.1, AV.str x.2] ∧ x.1.length < 1099511627776 ∧ x.2.length < 1099511627776) fun n => .all (fun (r : Int) => r = zo n.1 n.2) fun n => .ite (!decide (n = 0)) (.leaf (.ret [.str (Array.toList #[]), .int .i64 n] [])) (.ex (fun (x : List UInt8) => eqL [AV.str s] [AV.str x] ∧ x.length < 1099511627776) fun n => .all (fun (r : List Nat × Bool × Bool) => r = digR n) fun n => .ex (fun (x : List UInt8) => eqL [AV.str t] [AV.str x] ∧ x.length < 1099511627776) fun n_1 => .all (fun (r : List Nat × Bool × Bool) => r = digR n_1) fun n_2 => .ite (n.2.1 == n_2.2.1) (.ex (fun (x : List Nat × List Nat) => eqL [AV.sl n.1.length 1 (natG .i64 n.1), AV.sl n_2.1.length 1 (natG .i64 n_2.1)] [AV.sl x.1.length 1 (natG .i64 x.1), AV.sl x.2.length 1 (natG .i64 x.2)] ∧ Ten.dig x.1 ∧ Ten.dig x.2 ∧ x.1.length < 1073741824 ∧ x.2.length < 1073741824) fun n_3 => .all (Xv n_3) fun n_4 => .ex (fun (x : List Nat × Bool) => eqL [AV.sl n_4.length 1 (natG .i64 n_4), AV.bool n.2.1] [AV.sl x.1.length 1 (natG .i64 x.1), AV.bool x.2] ∧ Ten.dig x.1 ∧ x.1.length < 2147483648) fun n => .all (fun (r : List UInt8 × Int) => r = wr n.2 (Ten.val n.1)) fun n => .leaf (.ret [.str n.1, .int .i64 n.2] [])) (.ex (fun (x : List Nat × List Nat) => eqL [AV.sl n.1.length 1 (natG .i64 n.1), AV.sl n_2.1.length 1 (natG .i64 n_2.1)] [AV.sl x.1.length 1 (natG .i64 x.1), AV.sl x.2.length 1 (natG .i64 x.2)] ∧ Ten.dig x.1 ∧ Ten.dig x.2 ∧ x.1.length < 4611686018427387904 ∧ x.2.length < 4611686018427387904) fun n_3 => .all (fun (r : Int) => r = cmpN (Ten.val n_3.1) (Ten.val n_3.2)) fun n_4 => .ite (decide ((0 : Int) ≤ n_4)) (.ex (fun (x : List Nat × List Nat) => eqL [AV.sl n.1.length 1 (natG .i64 n.1), AV.sl n_2.1.length 1 (natG .i64 n_2.1)] [AV.sl x.1.length 1 (natG .i64 x.1), AV.sl x.2.length 1 (natG .i64 x.2)] ∧ Ten.dig x.1 ∧ Ten.dig x.2 ∧ x.1.length < 1099511627776 ∧ Ten.val x.2 ≤ Ten.val x.1) fun n_5 => .all (fun (r : List Nat) => r.length = n_5.1.length ∧ Ten.dig r ∧ Ten.val r + Ten.val n_5.2 = Ten.val n_5.1) fun n_6 => .ex (fun (x : List Nat × Bool) => eqL [AV.sl n_6.length 1 (natG .i64 n_6), AV.bool n.2.1] [AV.sl x.1.length 1 (natG .i64 x.1), AV.bool x.2] ∧ Ten.dig x.1 ∧ x.1.length < 2147483648) fun n => .all (fun (r : List UInt8 × Int) => r = wr n.2 (Ten.val n.1)) fun n => .leaf (.ret [.str n.1, .int .i64 n.2] [])) (.ex (fun (x : List Nat × List Nat) => eqL [AV.sl n_2.1.length 1 (natG .i64 n_2.1), AV.sl n.1.length 1 (natG .i64 n.1)] [AV.sl x.1.length 1 (natG .i64 x.1), AV.sl x.2.length 1 (natG .i64 x.2)] ∧ Ten.dig x.1 ∧ Ten.dig x.2 ∧ x.1.length < 1099511627776 ∧ Ten.val x.2 ≤ Ten.val x.1) fun n => .all (fun (r : List Nat) => r.length = n.1.length ∧ Ten.dig r ∧ Ten.val r + Ten.val n.2 = Ten.val n.1) fun n => .ex (fun (x : List Nat × Bool) => eqL [AV.sl n.length 1 (natG .i64 n), AV.bool n_2.2.1] [AV.sl x.1.length 1 (natG .i64 x.1), AV.bool x.2] ∧ Ten.dig x.1 ∧ x.1.length < 2147483648) fun n => .all (fun (r : List UInt8 × Int) => r = wr n.2 (Ten.val n.1)) fun n => .leaf (.ret [.str n.1, .int .i64 n.2] []))))) (by kernel_rfl) ?_
 simp only [Tree.holds, zc]
 refine ⟨(s, t), ⟨by simp, hs, ht⟩, ⟨_, rfl⟩, ?_⟩
 rintro _ rfl
 simp only
 refine ⟨fun he => ?_, fun he => ?_⟩
 ·have he : zo s t ≠ 0 := by
   intro h; simp [h] at he
  have e : addI s t = ([], zo s t) := if_neg he
  rw [e] at hq
  exact RetR.scal hq rfl (by simp [resV])
 have he : zo s t = 0 := by
  refine Decidable.byContradiction fun h => ?_
  simp [h] at he
 obtain ⟨h1, h2⟩ := zl.1 he
 have e : addI s t = wr (sumS (negI s) (numI s) (negI t) (numI t)).1 (sumS (negI s) (numI s) (negI t) (numI t)).2 := if_pos he
 rw [e] at hq
 refine ⟨s, ⟨by simp, hs⟩, ⟨_, rfl⟩, ?_⟩
 rintro _ rfl
 refine ⟨t, ⟨by simp, ht⟩, ⟨_, rfl⟩, ?_⟩
 rintro _ rfl
 obtain ⟨a1, a2, a3, a4⟩ := wq h1
 obtain ⟨b1, b2, b3, b4⟩ := wq h2
 rw [a1, b1]
 have ea : (parse s).1 = negI s := rfl
 have eb : (parse t).1 = negI t := rfl
 simp only [ea, eb]
 rw [← a4, ← b4] at hq
 generalize dg (parse s).2 = x at *
 generalize dg (parse t).2 = y at *
 generalize negI s = m at *
 generalize negI t = n at *
 have fin : ∀ (d : List Nat) (b : Bool), wr b (Ten.val d) = wr (sumS m (Ten.val x) n (Ten.val y)).1 (sumS m (Ten.val x) n (Ten.val y)).2 → ∀ r, r = wr b (Ten.val d) → RetR Ub 0 Q [.str r.1, .int .i64 r.2] [] := by
  rintro d b h _ rfl
  rw [← h] at hq
  exact RetR.scal hq rfl (by simp [resV])
 refine ⟨fun h => ?_, fun h => ⟨(x, y), ⟨eqL2 x y, a2, b2, by show x.length < _; omega, by show y.length < _; omega⟩, ⟨_, rfl⟩, ?_⟩⟩
 ·have h : m = n := by simpa using h
  refine ⟨(x, y), ⟨eqL2 x y, a2, b2, by show x.length < _; omega, by show y.length < _; omega⟩, X6 a2 b2, ?_⟩
  rintro z ⟨g1, g2, g3⟩
  simp only at g1 g3
  refine ⟨(z, m), ⟨eqLb z m, g2, by show z.length < _; omega⟩, ⟨_, rfl⟩, ?_⟩
  exact fin z m (by rw [g3]; unfold sumS; rw [if_pos h])
 ·have h : ¬ m = n := by simpa using h
  rintro _ rfl
  simp only
  refine ⟨fun g => ?_, fun g => ?_⟩
  ·have g : Ten.val y ≤ Ten.val x := uF.1 (of_decide_eq_true g)
   refine ⟨(x, y), ⟨eqL2 x y, a2, b2, by show x.length < _; omega, g⟩, yf a2 g, ?_⟩
   rintro z ⟨g1, g2, g3⟩
   simp only at g1 g3
   refine ⟨(z, m), ⟨eqLb z m, g2, by show z.length < _; omega⟩, ⟨_, rfl⟩, ?_⟩
   exact fin z m (by unfold sumS; rw [if_neg h, if_pos g]; congr 1; omega)
  ·have g : ¬ Ten.val y ≤ Ten.val x := fun h3 => of_decide_eq_false g (uF.2 h3)
   refine ⟨(y, x), ⟨eqL2 y x, b2, a2, by show y.length < _; omega, by show Ten.val x ≤ Ten.val y; omega⟩, yf b2 (by show Ten.val x ≤ Ten.val y; omega), ?_⟩
   rintro z ⟨g1, g2, g3⟩
   simp only at g1 g3
   refine ⟨(z, n), ⟨eqLb z n, g2, by show z.length < _; omega⟩, ⟨_, rfl⟩, ?_⟩
   exact fin z n (by unfold sumS; rw [if_neg h, if_neg g]; congr 1; omega)
theorem Uu {s : List UInt8} (h : errI s = 0) : 0 < (dg (parse s).2).length := by
 obtain ⟨_, _, h3, _⟩ := kE h
 rw [vY]
 exact List.length_pos_iff.2 h3
theorem Xx : zd Tryz.prog 68 UD := by
 refine ze (fn := Tryz.f68) (c := Tryz.f68.body.getD .skip) rfl rfl rfl fun p hp O w0 Q hq => ?_
 obtain ⟨s, t⟩ := p
 obtain ⟨hs, ht⟩ := hp
 replace hq := hq _ rfl
 simp only at hs ht hq
 refine zb.run hmix Kk [] 400 (T := .ex (fun (x : List UInt8 × List UInt8) => eqL [AV.str s, AV.str t] [AV.str x.1, AV.str x.2] ∧ x.1.length < 1099511627776 ∧ x.2.length < 1099511627776) fun n => .all (fun (r : Int) => r = zo n.1 n.2) fun n => .ite (!decide (n = 0)) (.leaf (.ret [.str (Array.toList #[]), .int .i64 n] [])) (.ex (fun (x : List UInt8) => eqL [AV.str s] [AV.str x] ∧ x.length < 1099511627776) fun n => .all (fun (r : List Nat × Bool × Bool) => r = digR n) fun n => .ex (fun (x : List UInt8) => eqL [AV.str t] [AV.str x] ∧ x.length < 1099511627776) fun n_1 => .all (fun (r : List Nat × Bool × Bool) => r = digR n_1) fun n_2 => .ex (fun (x : List Nat × List Nat) => eqL [AV.sl n.1.length 1 (natG .i64 n.1), AV.sl n_2.1.length 1 (natG .i64 n_2.1)] [AV.sl x.1.length 1 (natG .i64 x.1), AV.sl x.2.length 1 (natG .i64 x.2)] ∧ Ten.dig x.1 ∧ Ten.dig x.2 ∧ 0 < x.1.length ∧ 0 < x.2.length ∧ x.1.length < 1073741824 ∧ x.2.length < 1073741824) fun n_3 => .all (JD n_3) fun n_4 => .ex (fun (x : List Nat × Bool) => eqL [AV.sl n_4.length 1 (natG .i64 n_4), AV.bool !Prod.fst n.2 == n_2.2.1] [AV.sl x.1.length 1 (natG .i64 x.1), AV.bool x.2] ∧ Ten.dig x.1 ∧ x.1.length < 2147483648) fun n => .all (fun (r : List UInt8 × Int) => r = wr n.2 (Ten.val n.1)) fun n => .leaf (.ret [.str n.1, .int .i64 n.2] []))) (by kernel_rfl) ?_
 simp only [Tree.holds, zc]
 refine ⟨(s, t), ⟨by simp, hs, ht⟩, ⟨_, rfl⟩, ?_⟩
 rintro _ rfl
 simp only
 refine ⟨fun he => ?_, fun he => ?_⟩
 ·have he : zo s t ≠ 0 := by
   intro h; simp [h] at he
  have e : mulI s t = ([], zo s t) := if_neg he
  rw [e] at hq
  exact RetR.scal hq rfl (by simp [resV])
 have he : zo s t = 0 := by
  refine Decidable.byContradiction fun h => ?_
  simp [h] at he
 obtain ⟨h1, h2⟩ := zl.1 he
 have e : mulI s t = wr (negI s != negI t) (numI s * numI t) := if_pos he
 rw [e] at hq
 refine ⟨s, ⟨by simp, hs⟩, ⟨_, rfl⟩, ?_⟩
 rintro _ rfl
 refine ⟨t, ⟨by simp, ht⟩, ⟨_, rfl⟩, ?_⟩
 rintro _ rfl
 obtain ⟨a1, a2, a3, a4⟩ := wq h1
 obtain ⟨b1, b2, b3, b4⟩ := wq h2
 have a5 := Uu h1
 have b5 := Uu h2
 rw [a1, b1]
 have ea : (parse s).1 = negI s := rfl
 have eb : (parse t).1 = negI t := rfl
 simp only [ea, eb]
 rw [← a4, ← b4] at hq
 generalize dg (parse s).2 = x at *
 generalize dg (parse t).2 = y at *
 refine ⟨(x, y), ⟨eqL2 x y, a2, b2, a5, b5, by show x.length < _; omega, by show y.length < _; omega⟩, zaw a2 b2, ?_⟩
 rintro z ⟨g1, g2, g3⟩
 simp only at g1 g3
 refine ⟨(z, negI s != negI t), ⟨eqLb z _, g2, by show z.length < _; omega⟩, ⟨_, rfl⟩, ?_⟩
 rintro _ rfl
 rw [← g3] at hq
 exact RetR.scal hq rfl (by simp [resV])
theorem zfv : zd Tryz.prog 107 rdmC := by
 refine ze (fn := Tryz.f107) (c := Tryz.f107.body.getD .skip) rfl rfl rfl fun p hp O w0 Q hq => ?_
 obtain ⟨s, t⟩ := p
 obtain ⟨hs, ht⟩ := hp
 replace hq := hq _ rfl
 simp only at hs ht hq
 refine zb.run hmix Kk [] 400 (T := .ex (fun (x : List UInt8 × List UInt8) => eqL [AV.str s, AV.str t] [AV.str x.1, AV.str x.2] ∧ x.1.length < 1099511627776 ∧ x.2.length < 1099511627776) fun n => .all (fun (r : Int) => r = zo n.1 n.2) fun n => .ite (!decide (n = 0)) (.leaf (.ret [.str (Array.toList #[]), .str (Array.toList #[]), .int .i64 n] [])) (.ex (fun (x : List UInt8) => eqL [AV.str s] [AV.str x] ∧ x.length < 1099511627776) fun n => .all (fun (r : List Nat × Bool × Bool) => r = digR n) fun n => .ex (fun (x : List UInt8) => eqL [AV.str t] [AV.str x] ∧ x.length < 1099511627776) fun n_1 => .all (fun (r : List Nat × Bool × Bool) => r = digR n_1) fun n_2 => .ex (fun (x : List Nat) => eqL [AV.sl n_2.1.length 1 (natG .i64 n_2.1)] [AV.sl x.length 1 (natG .i64 x)] ∧ Ten.dig x ∧ x.length < 4611686018427387904) fun n_3 => .all (fun (r : Bool) => r = decide (Ten.val n_3 = 0)) fun n_4 => .ite n_4 (.leaf (.ret [.str (Array.toList #[]), .str (Array.toList #[]), .int .i64 16] [])) (.ex (fun (x : List Nat × List Nat) => eqL [AV.sl n.1.length 1 (natG .i64 n.1), AV.sl n_2.1.length 1 (natG .i64 n_2.1)] [AV.sl x.1.length 1 (natG .i64 x.1), AV.sl x.2.length 1 (natG .i64 x.2)] ∧ Ten.dig x.1 ∧ Ten.dig x.2 ∧ x.1.length < 274877906944 ∧ x.2.length < 274877906944 ∧ 0 < Ten.val x.2) fun n_5 => .all (fun (r : List Nat × List Nat) => r.1.length = n_5.1.length ∧ Ten.dig r.1 ∧ Ten.val r.1 = Ten.val n_5.1 / Ten.val n_5.2 ∧ r.2.length ≤ n_5.1.length ∧ Ten.dig r.2 ∧ Ten.val r.2 = Ten.val n_5.1 % Ten.val n_5.2) fun n_6 => .ex (fun (x : List Nat) => n.2.1 = true → eqL [AV.sl n_6.2.length 1 (natG .i64 n_6.2)] [AV.sl x.length 1 (natG .i64 x)] ∧ Ten.dig x ∧ x.length < 4611686018427387904) fun n_7 => .all (fun (x : Bool) => n.2.1 = true → x = decide (Ten.val n_7 = 0)) fun n_8 => .ite (bif n.2.1 then !n_8 else false) (.ex (fun (x : List Nat × List Nat) => eqL [AV.sl n_6.1.length 1 (natG .i64 n_6.1), AV.sl 1 1 (zg (zf 1 [AV.int .i64 1]) 0)] [AV.sl x.1.length 1 (natG .i64 x.1), AV.sl x.2.length 1 (natG .i64 x.2)] ∧ Ten.dig x.1 ∧ Ten.dig x.2 ∧ x.1.length < 1073741824 ∧ x.2.length < 1073741824) fun n_9 => .all (Xv n_9) fun n_10 => .ex (fun (x : List Nat × List Nat) => eqL [AV.sl n_2.1.length 1 (natG .i64 n_2.1), AV.sl n_6.2.length 1 (natG .i64 n_6.2)] [AV.sl x.1.length 1 (natG .i64 x.1), AV.sl x.2.length 1 (natG .i64 x.2)] ∧ Ten.dig x.1 ∧ Ten.dig x.2 ∧ x.1.length < 1099511627776 ∧ Ten.val x.2 ≤ Ten.val x.1) fun n_11 => .all (fun (r : List Nat) => r.length = n_11.1.length ∧ Ten.dig r ∧ Ten.val r + Ten.val n_11.2 = Ten.val n_11.1) fun n_12 => .ex (fun (x : List Nat × Bool) => eqL [AV.sl n_10.length 1 (natG .i64 n_10), AV.bool !Prod.fst n.2 == n_2.2.1] [AV.sl x.1.length 1 (natG .i64 x.1), AV.bool x.2] ∧ Ten.dig x.1 ∧ x.1.length < 1099511627776) fun n => .all (fun (r : List UInt8) => r = qu n.2 (Ten.val n.1)) fun n => .ex (fun (x : List Nat × Bool) => eqL [AV.sl n_12.length 1 (natG .i64 n_12), AV.bool false] [AV.sl x.1.length 1 (natG .i64 x.1), AV.bool x.2] ∧ Ten.dig x.1 ∧ x.1.length < 1099511627776) fun n_13 => .all (fun (r : List UInt8) => r = qu n_13.2 (Ten.val n_13.1)) fun n_14 => .leaf (.ret [.str n, .str n_14, .int .i64 0] [.arr 1 1 (zf 1 [.int .i64 1])])) (.ex (fun (x : List Nat × Bool) => eqL [AV.sl n_6.1.length 1 (natG .i64 n_6.1), AV.bool !Prod.fst n.2 == n_2.2.1] [AV.sl x.1.length 1 (natG .i64 x.1), AV.bool x.2] ∧ Ten.dig x.1 ∧ x.1.length < 1099511627776) fun n => .all (fun (r : List UInt8) => r = qu n.2 (Ten.val n.1)) fun n => .ex (fun (x : List Nat × Bool) => eqL [AV.sl n_6.2.length 1 (natG .i64 n_6.2), AV.bool false] [AV.sl x.1.length 1 (natG .i64 x.1), AV.bool x.2] ∧ Ten.dig x.1 ∧ x.1.length < 1099511627776) fun n_9 => .all (fun (r : List UInt8) => r = qu n_9.2 (Ten.val n_9.1)) fun n_10 => .leaf (.ret [.str n, .str n_10, .int .i64 0] []))))) (by kernel_rfl) ?_
 simp only [Tree.holds, zc]
 refine ⟨(s, t), ⟨by simp, hs, ht⟩, ⟨_, rfl⟩, ?_⟩
 rintro _ rfl
 simp only
 refine ⟨fun he => ?_, fun he => ?_⟩
 ·have he : zo s t ≠ 0 := by
   intro h; simp [h] at he
  have e : dmI s t = ([], [], zo s t) := if_pos he
  rw [e] at hq
  exact RetR.scal hq rfl (by simp [resV])
 have he : zo s t = 0 := by
  refine Decidable.byContradiction fun h => ?_
  simp [h] at he
 obtain ⟨h1, h2⟩ := zl.1 he
 refine ⟨s, ⟨by simp, hs⟩, ⟨_, rfl⟩, ?_⟩
 rintro _ rfl
 refine ⟨t, ⟨by simp, ht⟩, ⟨_, rfl⟩, ?_⟩
 rintro _ rfl
 obtain ⟨a1, a2, a3, a4⟩ := wq h1
 obtain ⟨b1, b2, b3, b4⟩ := wq h2
 rw [a1, b1]
 have ea : (parse s).1 = negI s := rfl
 have eb : (parse t).1 = negI t := rfl
 simp only [ea, eb]
 generalize dg (parse s).2 = x at *
 generalize dg (parse t).2 = y at *
 refine ⟨y, ⟨⟨⟨rfl, rfl, za _ _ _⟩, trivial⟩, b2, by omega⟩, ⟨_, rfl⟩, ?_⟩
 rintro _ rfl
 refine ⟨fun h0 => ?_, fun h0 => ?_⟩
 ·have h0 : Ten.val y = 0 := of_decide_eq_true h0
  have e : dmI s t = ([], [], 16) := by rw [dmI, if_neg (by rw [he]; decide), if_pos (by rw [← b4]; exact h0)]
  rw [e] at hq
  exact RetR.scal hq rfl (by simp [resV])
 have h0 : Ten.val y ≠ 0 := of_decide_eq_false h0
 have h0' : numI t ≠ 0 := by rw [← b4]; exact h0
 have e : dmI s t = ((wr (negI s != negI t) (dmQ s t)).1, (wr false (dmM s t)).1, 0) := by rw [dmI, if_neg (by rw [he]; decide), if_neg h0']
 rw [e] at hq
 have rq := Vw h1 h0'
 have rm := WS (s := s) h2 h0'
 have hlt := Nat.mod_lt (Ten.val x) (Nat.pos_of_ne_zero h0)
 have hex : ∃ r, XX (x, y) r := by
  obtain ⟨g1, g2, g3⟩ := uP a2 (Nat.div_le_self (Ten.val x) (Ten.val y))
  obtain ⟨g4, g5, g6⟩ := uP a2 (Nat.mod_le (Ten.val x) (Ten.val y))
  exact ⟨(_, _), g1, g2, g3, Nat.le_of_eq g4, g5, g6⟩
 refine ⟨(x, y), ⟨eqL2 x y, a2, b2, by show x.length < _; omega, by show y.length < _; omega, Nat.pos_of_ne_zero h0⟩, hex, ?_⟩
 rintro ⟨q, r⟩ ⟨g1, g2, g3, g4, g5, g6⟩
 simp only at g1 g2 g3 g4 g5 g6
 have fin : ∀ u v : List Nat, Ten.val u = dmQ s t → Ten.val v = dmM s t → ∀ U V : List UInt8, U = qu (negI s != negI t) (Ten.val u) → V = qu false (Ten.val v) → ∀ h : Heap, RetR rdmC 0 Q [.str U, .str V, .int .i64 0] h := by
  rintro u v hu hv _ _ rfl rfl h
  rw [← hu] at hq rq
  rw [← hv] at hq rm
  rw [← yD rq, ← yD rm] at hq
  exact RetR.scal hq rfl (by simp [resV])
 have hq1 : Ten.val q = numI s / numI t := by rw [g3, a4, b4]
 have hr1 : Ten.val r = numI s % numI t := by rw [g6, a4, b4]
 refine ⟨r, fun _ => ⟨⟨⟨rfl, rfl, za _ _ _⟩, trivial⟩, g5, by omega⟩, ⟨_, fun _ => rfl⟩, ?_⟩
 intro z hz
 refine ⟨fun hc => ?_, fun hc => ?_⟩
 ·have hm : negI s = true := by
   cases hn : negI s with
   | true => rfl
   | false => rw [hn] at hc; cases hc
  have hz := hz hm
  rw [hm] at hc
  have hc : z = false := by simpa using hc
  rw [hc] at hz
  have hr0 : Ten.val r ≠ 0 := of_decide_eq_false hz.symm
  have hcond : negI s = true ∧ 0 < numI s % numI t := ⟨hm, by omega⟩
  have eQ : dmQ s t = numI s / numI t + 1 := if_pos hcond
  have eM : dmM s t = numI t - numI s % numI t := if_pos hcond
  have h1d : Ten.dig [1] := fun d hd => by
   have : d = 1 := by simpa using hd
   rw [this]; decide
  refine ⟨(q, [1]), ⟨⟨⟨rfl, rfl, za _ _ _⟩, ⟨rfl, rfl, ?_⟩, trivial⟩, g2, h1d, by show q.length < _; omega, by show 1 < 1073741824; decide⟩, X6 g2 h1d, ?_⟩
  ·intro j o hj ho
   have : j = 0 := by omega
   subst this
   have : o = 0 := by omega
   subst this
   rfl
  rintro u ⟨u1, u2, u3⟩
  simp only at u1 u3
  have hle : Ten.val r ≤ Ten.val y := by omega
  refine ⟨(y, r), ⟨eqL2 y r, b2, g5, by show y.length < _; omega, hle⟩, yf b2 hle, ?_⟩
  rintro v ⟨v1, v2, v3⟩
  simp only at v1 v3
  have hone : Ten.val [1] = 1 := rfl
  refine ⟨(u, negI s != negI t), ⟨eqLb u _, u2, by simp only [u1]; show max q.length 1 + 1 < _; omega⟩, ⟨_, rfl⟩, ?_⟩
  intro U hU
  refine ⟨(v, false), ⟨eqLb v _, v2, by simp only; omega⟩, ⟨_, rfl⟩, ?_⟩
  intro V hV
  exact fin u v (by rw [u3, hone, hq1, eQ]) (by rw [eM]; omega) U V hU hV _
 ·have hcond : ¬ (negI s = true ∧ 0 < numI s % numI t) := by
   rintro ⟨hm, h5⟩
   have hz := hz hm
   rw [hm] at hc
   have hc : z = true := by simpa using hc
   rw [hc] at hz
   have : Ten.val r = 0 := of_decide_eq_true hz.symm
   omega
  have eQ : dmQ s t = numI s / numI t := if_neg hcond
  have eM : dmM s t = numI s % numI t := if_neg hcond
  refine ⟨(q, negI s != negI t), ⟨eqLb q _, g2, by simp only; omega⟩, ⟨_, rfl⟩, ?_⟩
  intro U hU
  refine ⟨(r, false), ⟨eqLb r _, g5, by simp only; omega⟩, ⟨_, rfl⟩, ?_⟩
  intro V hV
  exact fin q r (by rw [hq1, eQ]) (by rw [hr1, eM]) U V hU hV _
end Go.Proofs.Tryz
end

/- Rationals: how a number is written; what the operations yield. -/
section
namespace Go.Nov
def qv (a : List UInt8) : Rat := Rat.divInt (zI (numR a)) (zI (denR a))
def qstr (r : Rat) : List UInt8 := if r.den = 1 then (wz r.num).1 else (wz r.num).1 ++ [47] ++ (wz r.den).1
def xz (r : Rat) : Prop := room r.num.natAbs ∧ room r.den
theorem zaa (neg : Bool) (x : Nat) : ∀ c ∈ (wr neg x).1, c ≠ 47 := by
 intro c hc h
 subst h
 unfold wr at hc
 split at hc
 ·simp at hc
 ·rename_i h0
  split at hc
  ·simp at hc
  ·have ht : ¬ (47 : UInt8) ∈ txt x := fun hm => by
    have := (XQ h0 _ hm).1
    have e : (47 : UInt8).toNat = 47 := rfl
    omega
   cases neg <;> simp [sgn] at hc <;> exact ht hc
theorem Ul {u v : List UInt8} (h : ∀ c ∈ u, c ≠ 47) : cutR (u ++ [47] ++ v) = (u, v, true) := by
 have hs : zx (u ++ [47] ++ v) = u.length := by
  refine W5 (by simp) (by simp [List.getD]) fun j hj => ?_
  rw [List.append_assoc]
  simp only [List.getD, List.getElem?_append_left hj, List.getElem?_eq_getElem hj, Option.getD_some]
  exact h _ (List.getElem_mem hj)
 rw [uE (by rw [hs]; simp), hs]
 simp
theorem Yc {u : List UInt8} (h : ∀ c ∈ u, c ≠ 47) : cutR u = (u, [], false) := by
 have hs : zx u = u.length := Za fun j hj => by
  simp only [List.getD, List.getElem?_eq_getElem hj, Option.getD_some]
  exact h _ (List.getElem_mem hj)
 exact J0 (by omega)
theorem WL (z : Int) : ∀ c ∈ (wz z).1, c ≠ 47 := zaa _ _
theorem xd {z : Int} (h : room z.natAbs) : (wz z).2 = 0 := w6 h
theorem zf9 : wz 1 = ([49], 0) := vT
theorem Zc {r : Rat} (h : xz r) : numR (qstr r) = (wz r.num).1 ∧ denR (qstr r) = (wz (r.den : Int)).1 ∧ (cutR (qstr r)).2.2 = decide (r.den ≠ 1) := by
 unfold qstr
 by_cases h1 : r.den = 1
 ·rw [if_pos h1]
  have := Yc (WL r.num)
  unfold numR denR
  rw [this, h1]
  exact ⟨rfl, by simp only [Bool.false_eq_true, if_false]; exact (congrArg Prod.fst zf9).symm, by simp⟩
 ·rw [if_neg h1]
  have := Ul (v := (wz (r.den : Int)).1) (WL r.num)
  unfold numR denR
  rw [this]
  exact ⟨rfl, rfl, by simp [h1]⟩
theorem XU {r : Rat} (h : xz r) : qv (qstr r) = r := by
 obtain ⟨h1, h2, _⟩ := Zc h
 unfold qv
 rw [h1, h2, wX (xd h.1), wX (xd (by rw [Int.natAbs_natCast]; exact h.2)), Rat.divInt_ofNat, Rat.mkRat_self]
theorem Jg {r : Rat} (h : xz r) : errR (qstr r) = 0 := by
 obtain ⟨h1, h2, h3⟩ := Zc h
 have e1 := xt (xd h.1)
 have e2 : errI (wz (r.den : Int)).1 = 0 := xt (xd (by rw [Int.natAbs_natCast]; exact h.2))
 have z1 := wX (xd h.1)
 have z2 : zI (wz (r.den : Int)).1 = r.den := wX (xd (by rw [Int.natAbs_natCast]; exact h.2))
 unfold errR
 by_cases hd : r.den = 1
 ·rw [h3, hd]
  simp only [ne_eq, not_true_eq_false, decide_false, Bool.false_eq_true, if_false]
  unfold qstr
  rw [if_pos hd]
  exact e1
 ·have hc : (cutR (qstr r)).2.2 = true := by rw [h3]; simp [hd]
  have n1 : (cutR (qstr r)).1 = (wz r.num).1 := h1
  have n2 : (cutR (qstr r)).2.1 = (wz (r.den : Int)).1 := by unfold denR at h2; rw [hc] at h2; exact h2
  rw [hc, if_pos rfl, n1, n2]
  have hp := r.den_pos
  have hneg : negI (wz (r.den : Int)).1 = false := by rw [kX e2, z2]; exact decide_eq_false (by omega)
  have hn48 : (wz (r.den : Int)).1 ≠ [48] := fun h => by
   rw [h] at z2
   have : zI [48] = 0 := rfl
   omega
  have hn49 : (wz (r.den : Int)).1 ≠ [49] := fun h => by
   rw [h] at z2
   have : zI [49] = 1 := rfl
   omega
  rw [if_neg (by simp [e1, e2, hneg, hn48, hn49]), if_neg (by simp [e1, e2])]
  have hg : gcdR (wz r.num).1 (wz (r.den : Int)).1 = wr false (Nat.gcd r.num.natAbs r.den) := by
   unfold gcdR
   rw [if_pos (zl.2 ⟨e1, e2⟩), ← qK, ← qK, z1, z2, Int.natAbs_natCast]
  have hr : Nat.gcd r.num.natAbs r.den = 1 := r.reduced
  rw [hg, hr, vT, if_neg (by simp)]
theorem yA {a : List UInt8} (h : errR a = 0) : (qv a).num = zI (numR a) ∧ ((qv a).den : Int) = zI (denR a) ∧ qstr (qv a) = a ∧ xz (qv a) := by
 obtain ⟨e1, e2, e3, e4⟩ := q6 h
 have hz : zI (denR a) = numI (denR a) := by unfold zI; rw [e3]; rfl
 have hcop : Nat.gcd (numI (numR a)) (numI (denR a)) = 1 := by
  unfold errR at h
  cases hc : (cutR a).2.2 with
  | true =>
   rw [hc, if_pos rfl] at h
   have hd : denR a = (cutR a).2.1 := by unfold denR; rw [hc]; rfl
   rw [hd] at e2 e4 ⊢
   unfold numR at e1 ⊢
   split at h
   ·cases h
   split at h
   ·cases h
   split at h
   ·cases h
   ·rename_i hg
    rw [Classical.not_not] at hg
    unfold gcdR at hg
    rw [if_pos (zl.2 ⟨e1, e2⟩)] at hg
    exact (Z6 (Z3 e2 e4).2).1 hg
  | false =>
   have : denR a = [49] := by unfold denR; rw [hc]; rfl
   rw [this]
   exact Nat.gcd_one_right _
 have hq : qv a = ⟨zI (numR a), numI (denR a), e4, by rw [qK]; exact hcop⟩ := by
  unfold qv
  rw [hz, Rat.mk_eq_divInt]
 have hroom : xz (qv a) := by
  rw [hq]
  exact ⟨by show room (zI (numR a)).natAbs; rw [qK]; exact qE e1, qE e2⟩
 refine ⟨by rw [hq], by rw [hq, hz], ?_, hroom⟩
 rw [hq]
 unfold qstr
 simp only
 rw [← hz, ye e1, ye e2]
 cases hc : (cutR a).2.2 with
 | true =>
  have hd : denR a = (cutR a).2.1 := by unfold denR; rw [hc]; rfl
  have hn1 : numI (denR a) ≠ 1 := by
   intro h1
   have : denR a = [49] := by
    have := (Xq e2)
    rw [e3, h1, vT] at this
    exact (congrArg Prod.fst this).symm
   unfold errR at h
   rw [hc, if_pos rfl, if_pos (by rw [← hd, this]; simp)] at h
   cases h
  rw [if_neg hn1, hd]
  simp only [numR]
  unfold cutR at hc ⊢
  split at hc
  ·rename_i hs
   rw [if_pos hs]
   simp only
   have h47 := Qf hs
   have : a = a.take (zx a) ++ ([a.getD (zx a) 0] ++ a.drop (zx a + 1)) := by
    conv => lhs; rw [← List.take_append_drop (zx a) a]
    congr 1
    rw [List.drop_eq_getElem_cons hs]
    simp [List.getD, List.getElem?_eq_getElem hs]
   rw [h47] at this
   rw [List.append_assoc]
   exact this.symm
  ·cases hc
 | false =>
  have hd : denR a = [49] := by unfold denR; rw [hc]; rfl
  rw [hd]
  have : numI [49] = 1 := rfl
  rw [if_pos this]
  unfold numR
  unfold cutR at hc ⊢
  split at hc
  ·cases hc
  ·rename_i hs
   rw [if_neg hs]
end Go.Nov
end

/- Rationals: what the operations yield. -/
section
namespace Go.Nov
theorem zdk (a b : Int) (hb : b ≠ 0) : b.sign * a = if (decide (a < 0) != decide (b < 0)) = true then -(a.natAbs : Int) else a.natAbs := by
 by_cases h1 : a < 0
 ·rw [decide_eq_true h1]
  by_cases h2 : b < 0
  ·rw [decide_eq_true h2, Int.sign_eq_neg_one_of_neg h2]; simp; omega
  ·rw [decide_eq_false h2, Int.sign_eq_one_of_pos (by omega)]; simp; omega
 ·rw [decide_eq_false h1]
  by_cases h2 : b < 0
  ·rw [decide_eq_true h2, Int.sign_eq_neg_one_of_neg h2]; simp; omega
  ·rw [decide_eq_false h2, Int.sign_eq_one_of_pos (by omega)]; simp; omega
theorem zg8 {n d : List UInt8} (hn : errI n = 0) (hd : errI d = 0) (h0 : numI d ≠ 0) : qC n d = (qstr (Rat.divInt (zI n) (zI d)), 0) ∧ xz (Rat.divInt (zI n) (zI d)) := by
 have hz0 : zI d ≠ 0 := fun h => h0 (by rw [← qK, h]; rfl)
 have hg : (zI d).gcd (zI n) = Nat.gcd (numI n) (numI d) := by
  show Nat.gcd _ _ = _
  rw [qK, qK, Nat.gcd_comm]
 have hden : (Rat.divInt (zI n) (zI d)).den = numI d / Nat.gcd (numI n) (numI d) := by
  rw [Rat.den_divInt, if_neg hz0, hg, qK]
 have hdv : Nat.gcd (numI n) (numI d) ∣ numI n := Nat.gcd_dvd_left _ _
 have hnum : (Rat.divInt (zI n) (zI d)).num = if (negI n != negI d) = true then -((numI n / Nat.gcd (numI n) (numI d) : Nat) : Int) else ((numI n / Nat.gcd (numI n) (numI d) : Nat) : Int) := by
  rw [Rat.num_divInt, hg, zdk _ _ hz0, qK, ← kX hn, ← kX hd]
  split
  ·rw [Int.neg_ediv_of_dvd (Int.natCast_dvd_natCast.2 hdv), Int.natCast_ediv]
  ·rw [Int.natCast_ediv]
 have hroom : xz (Rat.divInt (zI n) (zI d)) := by
  refine ⟨?_, by rw [hden]; exact room_le (Nat.div_le_self _ _) (qE hd)⟩
  rw [hnum]
  have : room (numI n / Nat.gcd (numI n) (numI d)) := room_le (Nat.div_le_self _ _) (qE hn)
  split
  ·rw [Int.natAbs_neg, Int.natAbs_natCast]; exact this
  ·rw [Int.natAbs_natCast]; exact this
 refine ⟨?_, hroom⟩
 unfold qC
 rw [if_neg (by rw [zl.2 ⟨hn, hd⟩]; simp), if_neg h0]
 congr 1
 unfold ur qstr
 rw [hden, hnum]
 have e2 : (wr false (numI d / Nat.gcd (numI n) (numI d))).1 = (wz ((numI d / Nat.gcd (numI n) (numI d) : Nat) : Int)).1 := by rw [Wu]; rfl
 rw [Wu, e2]
theorem zbs {n d : List UInt8} {e f : Int} {z w : Int} (hw : w ≠ 0) (hz : (n, e) = wz z) (hd : (d, f) = wz w) : frac (n, e) (d, f) = ([], 14) ∨ (frac (n, e) (d, f) = (qstr (Rat.divInt z w), 0) ∧ xz (Rat.divInt z w)) := by
 unfold frac
 by_cases he : e = 0
 ·by_cases hf : f = 0
  ·subst he; subst hf
   have h1 : (wz z).2 = 0 := by rw [← hz]
   have h2 : (wz w).2 = 0 := by rw [← hd]
   have n1 : n = (wz z).1 := by rw [← hz]
   have n2 : d = (wz w).1 := by rw [← hd]
   have z1 := wX h1
   have z2 := wX h2
   have e1 := xt h1
   have e2 := xt h2
   rw [← n1] at z1 e1
   rw [← n2] at z2 e2
   right
   rw [if_neg (by simp)]
   have := zg8 e1 e2 (fun h => hw (by rw [← z2]; have := qK d; omega))
   rw [z1, z2] at this
   exact this
  ·left; rw [if_pos (.inr hf)]
 ·left; rw [if_pos (.inl he)]
section
variable {a b : List UInt8} (ha : errR a = 0) (hb : errR b = 0)
include ha hb
theorem Ve : errI (numR a) = 0 ∧ errI (denR a) = 0 ∧ errI (numR b) = 0 ∧ errI (denR b) = 0 ∧ zI (denR a) ≠ 0 ∧ zI (denR b) ≠ 0 ∧ qj a b = 0 := by
 obtain ⟨a1, a2, _, a4⟩ := q6 ha
 obtain ⟨b1, b2, _, b4⟩ := q6 hb
 exact ⟨a1, a2, b1, b2, fun h => a4 (by rw [← qK, h]; rfl), fun h => b4 (by rw [← qK, h]; rfl), by unfold qj; rw [if_pos ha]; exact hb⟩
theorem XR : zE a b = 14 ∨ (zE a b = 0 ∧ mulI (numR a) (denR b) = wz (zI (numR a) * zI (denR b)) ∧ mulI (numR b) (denR a) = wz (zI (numR b) * zI (denR a)) ∧ (mulI (numR a) (denR b)).2 = 0 ∧ (mulI (numR b) (denR a)).2 = 0) := by
 obtain ⟨a1, a2, b1, b2, a4, b4, h2⟩ := Ve ha hb
 have m1 := xK (zl.2 ⟨a1, b2⟩)
 have m2 := xK (zl.2 ⟨b1, a2⟩)
 unfold zE
 rw [if_neg (by rw [h2]; simp)]
 by_cases h : (mulI (numR a) (denR b)).2 ≠ 0 ∨ (mulI (numR b) (denR a)).2 ≠ 0
 ·left; rw [if_pos h]
 ·right
  rw [if_neg h]
  simp only [not_or, Classical.not_not] at h
  exact ⟨rfl, m1, m2, h.1, h.2⟩
theorem zgc : addR a b = ([], 14) ∨ (addR a b = (qstr (qv a + qv b), 0) ∧ xz (qv a + qv b)) := by
 obtain ⟨a1, a2, b1, b2, a4, b4, h2⟩ := Ve ha hb
 unfold addR
 rcases XR ha hb with h | ⟨h, m1, m2, k1, k2⟩
 ·left; rw [h]; rfl
 ·rw [h, if_neg (by simp)]
  rw [m1] at k1
  rw [m2] at k2
  have e1 := xt k1
  have e2 := xt k2
  have := zbs (n := (addI (mulI (numR a) (denR b)).1 (mulI (numR b) (denR a)).1).1) (e := (addI (mulI (numR a) (denR b)).1 (mulI (numR b) (denR a)).1).2) (d := (mulI (denR a) (denR b)).1) (f := (mulI (denR a) (denR b)).2)
   (z := zI (numR a) * zI (denR b) + zI (numR b) * zI (denR a)) (w := zI (denR a) * zI (denR b)) (Int.mul_ne_zero a4 b4) (by rw [m1, m2, zg1 (zl.2 ⟨e1, e2⟩), wX k1, wX k2]) (by rw [xK (zl.2 ⟨a2, b2⟩)])
  unfold qv
  rw [Rat.divInt_add_divInt _ _ a4 b4]
  exact this
theorem zf1 : mulR a b = ([], 14) ∨ (mulR a b = (qstr (qv a * qv b), 0) ∧ xz (qv a * qv b)) := by
 obtain ⟨a1, a2, b1, b2, a4, b4, h2⟩ := Ve ha hb
 unfold mulR
 rw [h2, if_neg (by simp)]
 have := zbs (n := (mulI (numR a) (numR b)).1) (e := (mulI (numR a) (numR b)).2) (d := (mulI (denR a) (denR b)).1) (f := (mulI (denR a) (denR b)).2)
  (z := zI (numR a) * zI (numR b)) (w := zI (denR a) * zI (denR b)) (Int.mul_ne_zero a4 b4) (by rw [xK (zl.2 ⟨a1, b1⟩)]) (by rw [xK (zl.2 ⟨a2, b2⟩)])
 unfold qv
 rw [Rat.divInt_mul_divInt]
 exact this
theorem zg0 : cmpR a b = (0, 14) ∨ cmpR a b = (if qv a < qv b then -1 else if qv b < qv a then 1 else 0, 0) := by
 obtain ⟨a1, a2, b1, b2, a4, b4, h2⟩ := Ve ha hb
 obtain ⟨p1, p2, _, _⟩ := yA ha
 obtain ⟨r1, r2, _, _⟩ := yA hb
 unfold cmpR
 rcases XR ha hb with h | ⟨h, m1, m2, k1, k2⟩
 ·left; rw [h]; rfl
 ·right
  rw [h, if_neg (by simp)]
  rw [m1] at k1
  rw [m2] at k2
  have e1 := xt k1
  have e2 := xt k2
  rw [m1, m2]
  unfold uz
  rw [if_pos (zl.2 ⟨e1, e2⟩)]
  congr 1
  have hx : ∀ s : List UInt8, errI s = 0 → negI s = true → numI s ≠ 0 := fun s he hn h0 => by
   rw [(wM he).2 h0] at hn; cases hn
  rw [zfr _ _ _ _ (hx _ e1) (hx _ e2)]
  show cmpI (zI (wz (zI (numR a) * zI (denR b))).1) (zI (wz (zI (numR b) * zI (denR a))).1) = _
  rw [wX k1, wX k2, ← p1, ← p2, ← r1, ← r2]
  unfold cmpI
  simp only [Rat.lt_iff]
end
theorem zcy {a b : List UInt8} (ha : errR a = 0) (hb : errR b = 0) (h : (addR a b).2 = 0) : errR (addR a b).1 = 0 ∧ qv (addR a b).1 = qv a + qv b := by
 rcases zgc ha hb with h1 | ⟨h1, h2⟩
 ·rw [h1] at h; cases h
 ·rw [h1]; exact ⟨Jg h2, XU h2⟩
theorem zcx {a b : List UInt8} (ha : errR a = 0) (hb : errR b = 0) (h : (mulR a b).2 = 0) : errR (mulR a b).1 = 0 ∧ qv (mulR a b).1 = qv a * qv b := by
 rcases zf1 ha hb with h1 | ⟨h1, h2⟩
 ·rw [h1] at h; cases h
 ·rw [h1]; exact ⟨Jg h2, XU h2⟩
end Go.Nov
end

/- Rationals as the reference computes them. -/
section
namespace Go.Nov
theorem JW {b c : Bool} {x : Nat} (h : x ≠ 0 → b = c) : wr b x = wr c x := by
 by_cases h0 : x = 0
 ·subst h0; rfl
 ·rw [h h0]
theorem UN (z : Int) : z = 0 ∧ (wz z).1 = [48] ∨ z ≠ 0 ∧ room z.natAbs ∧ (wz z).1 = sgn (decide (z < 0)) (txt z.natAbs) ∨ ¬ room z.natAbs := by
 by_cases h0 : z = 0
 ·left; subst h0; exact ⟨rfl, rfl⟩
 ·right
  by_cases hr : room z.natAbs
  ·left
   refine ⟨h0, hr, ?_⟩
   unfold wz wr
   have hr' : (dec z.natAbs).length ≤ 1000 := hr
   rw [if_neg (by omega), if_neg (by omega)]
  ·exact .inr hr
theorem zae (b : List UInt8) : sgn true b = 45 :: b := rfl
theorem Y7 (b : List UInt8) : sgn false b = b := rfl
theorem Z1 (z : Int) : (wz (-z)).2 = (wz z).2 := by
 unfold wz wr
 rw [Int.natAbs_neg]
 split
 ·rfl
 ·split <;> rfl
end Go.Nov
end

/- The reference's rationals. -/
section
set_option maxRecDepth 100000
open Go Go.Sx Go.Proofs Go.Nov
namespace Go.Proofs.Tryz
attribute [local simp] eqKV eqA eqA0 eqH eqB eqL eqL0
def Wd : Ctr := ctrP true (fun p : List UInt8 × List UInt8 => [.str p.1, .str p.2]) (fun p => p.1.length < 2 ^ 40 ∧ p.2.length < 2 ^ 40) (fun p r => r = qC p.1 p.2) (fun _ r => (.tup [.str r.1, .int .i64 r.2], []))
noncomputable def GRm : Nat → Option Ctr := fun f => if f = 86 then some (Xh) else if f = 106 then some (zes) else if f = 66 then some (zah) else if f = 107 then some (rdmC) else none
theorem zfo : ∀ g c, GRm g = some c → zd Tryz.prog g c := okIf Jp (okIf zdo (okIf Xs (okIf zfv (zp))))
theorem zbt (z : Int) : (wz z).1.length ≤ 1001 := jc _ _
theorem zby : zd Tryz.prog 92 Wd := by
 refine ze (fn := Tryz.f92) (c := Tryz.f92.body.getD .skip) rfl rfl rfl fun p hp O w0 Q hq => ?_
 obtain ⟨s, t⟩ := p
 obtain ⟨hs, ht⟩ := hp
 replace hq := hq _ rfl
 simp only at hs ht hq
 refine zb.run hmix zfo [] 400 (T := .ex (fun (x : List UInt8 × List UInt8) => eqL [AV.str s, AV.str t] [AV.str x.1, AV.str x.2] ∧ x.1.length < 1099511627776 ∧ x.2.length < 1099511627776) fun n => .all (fun (r : Int) => r = zo n.1 n.2) fun n => .ite (!decide (n = 0)) (.leaf (.ret [.str (Array.toList #[]), .int .i64 n] [])) (.ite (decide (t = Array.toList #[(48 : UInt8)])) (.leaf (.ret [.str (Array.toList #[]), .int .i64 16] [])) (.side ((0 : Int) ≤ 0 ∧ (0 : Int) < t.length) (.ite (decide ((↑(UInt8.toNat (List.getD t 0 (0 : UInt8))) : Int) = 45)) (.ex (fun (x : List UInt8) => eqL [AV.str s] [AV.str x] ∧ errI x = 0 ∧ x.length < 1099511627776) fun n => .all (fun (r : List UInt8) => r = Prod.fst (wz (-zI n))) fun n => .ex (fun (x : List UInt8) => eqL [AV.str t] [AV.str x] ∧ errI x = 0 ∧ x.length < 1099511627776) fun n_1 => .all (fun (r : List UInt8) => r = Prod.fst (wz (-zI n_1))) fun n_2 => .ex (fun (x : List UInt8 × List UInt8) => eqL [AV.str n, AV.str n_2] [AV.str x.1, AV.str x.2] ∧ x.1.length < 1099511627776 ∧ x.2.length < 1099511627776) fun n_3 => .all (fun (r : List UInt8 × Int) => r = gcdR n_3.1 n_3.2) fun n_4 => .ex (fun (x : List UInt8 × List UInt8) => eqL [AV.str n, AV.str n_4.1] [AV.str x.1, AV.str x.2] ∧ x.1.length < 1099511627776 ∧ x.2.length < 1099511627776) fun n => .all (fun (r : List UInt8 × List UInt8 × Int) => r = dmI n.1 n.2) fun n => .ex (fun (x : List UInt8 × List UInt8) => eqL [AV.str n_2, AV.str n_4.1] [AV.str x.1, AV.str x.2] ∧ x.1.length < 1099511627776 ∧ x.2.length < 1099511627776) fun n_5 => .all (fun (r : List UInt8 × List UInt8 × Int) => r = dmI n_5.1 n_5.2) fun n_6 => .ite (decide (n_6.1 = Array.toList #[(49 : UInt8)])) (.leaf (.ret [.str n.1, .int .i64 0] [])) (.side (n.1.length + 1 ≤ 9223372036854775807) (.side (List.length (n.1 ++ Array.toList #[(47 : UInt8)]) + n_6.1.length ≤ 9223372036854775807) (.leaf (.ret [.str (n.1 ++ Array.toList #[(47 : UInt8)] ++ n_6.1), .int .i64 0] []))))) (.ex (fun (x : List UInt8 × List UInt8) => eqL [AV.str s, AV.str t] [AV.str x.1, AV.str x.2] ∧ x.1.length < 1099511627776 ∧ x.2.length < 1099511627776) fun n => .all (fun (r : List UInt8 × Int) => r = gcdR n.1 n.2) fun n => .ex (fun (x : List UInt8 × List UInt8) => eqL [AV.str s, AV.str n.1] [AV.str x.1, AV.str x.2] ∧ x.1.length < 1099511627776 ∧ x.2.length < 1099511627776) fun n_1 => .all (fun (r : List UInt8 × List UInt8 × Int) => r = dmI n_1.1 n_1.2) fun n_2 => .ex (fun (x : List UInt8 × List UInt8) => eqL [AV.str t, AV.str n.1] [AV.str x.1, AV.str x.2] ∧ x.1.length < 1099511627776 ∧ x.2.length < 1099511627776) fun n => .all (fun (r : List UInt8 × List UInt8 × Int) => r = dmI n.1 n.2) fun n => .ite (decide (n.1 = Array.toList #[(49 : UInt8)])) (.leaf (.ret [.str n_2.1, .int .i64 0] [])) (.side (n_2.1.length + 1 ≤ 9223372036854775807) (.side (List.length (n_2.1 ++ Array.toList #[(47 : UInt8)]) + n.1.length ≤ 9223372036854775807) (.leaf (.ret [.str (n_2.1 ++ Array.toList #[(47 : UInt8)] ++ n.1), .int .i64 0] []))))))))) (by kernel_rfl) ?_
 simp only [Tree.holds, zc, inR, lo, hi, Int.toNat_natCast]
 refine ⟨(s, t), ⟨by simp, hs, ht⟩, ⟨_, rfl⟩, ?_⟩
 rintro _ rfl
 simp only
 refine ⟨fun he => ?_, fun he => ?_⟩
 ·have he : zo s t ≠ 0 := by
   intro h; simp [h] at he
  have e : qC s t = ([], zo s t) := if_pos he
  rw [e] at hq
  exact RetR.scal hq rfl (by simp [resV])
 have he : zo s t = 0 := by
  refine Decidable.byContradiction fun h => ?_
  simp [h] at he
 obtain ⟨h1, h2⟩ := zl.1 he
 refine ⟨fun h0 => ?_, fun h0 => ?_⟩
 ·have h0 : t = [48] := by simpa using h0
  have e : qC s t = ([], 16) := by rw [qC, if_neg (by rw [he]; decide), if_pos ((wM h2).1 h0)]
  rw [e] at hq
  exact RetR.scal hq rfl (by simp [resV])
 have ht0 : t ≠ [48] := fun h => of_decide_eq_false h0 h
 have hn0 : numI t ≠ 0 := fun h => ht0 ((wM h2).2 h)
 have htn : t ≠ [] := by rintro rfl; simp [ZT] at h2
 have hneg := yR htn
 have e : qC s t = (ur (negI s != negI t) (numI s) (numI t), 0) := by rw [qC, if_neg (by rw [he]; decide), if_neg hn0]
 rw [e, ur] at hq
 obtain ⟨g0, gr⟩ := Z3 (s := s) h2 hn0
 have ds : Nat.gcd (numI s) (numI t) ∣ numI s := Nat.gcd_dvd_left _ _
 have dt : Nat.gcd (numI s) (numI t) ∣ numI t := Nat.gcd_dvd_right _ _
 have fin : ∀ u v : List UInt8, errI u = 0 → errI v = 0 → numI u = numI s → numI v = numI t → negI v = false → (numI s ≠ 0 → negI u = (negI s != negI t)) → u.length < 2 ^ 40 → v.length < 2 ^ 40 →
   ∃ n : List UInt8 × List UInt8, (eqL [AV.str u, AV.str v] [AV.str n.1, AV.str n.2] ∧ n.1.length < 1099511627776 ∧ n.2.length < 1099511627776) ∧ (∃ r, r = gcdR n.1 n.2) ∧ ∀ r : List UInt8 × Int, r = gcdR n.1 n.2 →
    ∃ n : List UInt8 × List UInt8, (eqL [AV.str u, AV.str r.1] [AV.str n.1, AV.str n.2] ∧ n.1.length < 1099511627776 ∧ n.2.length < 1099511627776) ∧ (∃ r, r = dmI n.1 n.2) ∧ ∀ z : List UInt8 × List UInt8 × Int, z = dmI n.1 n.2 →
     ∃ n : List UInt8 × List UInt8, (eqL [AV.str v, AV.str r.1] [AV.str n.1, AV.str n.2] ∧ n.1.length < 1099511627776 ∧ n.2.length < 1099511627776) ∧ (∃ r, r = dmI n.1 n.2) ∧ ∀ w : List UInt8 × List UInt8 × Int, w = dmI n.1 n.2 →
      (decide (w.1 = [49]) = true → RetR Wd 0 Q [.str z.1, .int .i64 0] []) ∧ (decide (w.1 = [49]) = false → z.1.length + 1 ≤ 9223372036854775807 ∧ (z.1.length + 1 ≤ 9223372036854775807 → (z.1 ++ [47]).length + w.1.length ≤ 9223372036854775807 ∧ ((z.1 ++ [47]).length + w.1.length ≤ 9223372036854775807 → RetR Wd 0 Q [.str (z.1 ++ [47] ++ w.1), .int .i64 0] []))) := by
  intro u v eu ev nu nv sv su lu lv
  refine ⟨(u, v), ⟨⟨rfl, rfl, trivial⟩, by simpa using lu, by simpa using lv⟩, ⟨_, rfl⟩, ?_⟩
  rintro _ rfl
  have eg : gcdR u v = wr false (Nat.gcd (numI s) (numI t)) := by rw [gcdR, if_pos (zl.2 ⟨eu, ev⟩), nu, nv]
  rw [eg]
  generalize Nat.gcd (numI s) (numI t) = g at *
  have l1 := jc false g
  refine ⟨(u, (wr false g).1), ⟨⟨rfl, rfl, trivial⟩, by simpa using lu, by simp only; omega⟩, ⟨_, rfl⟩, ?_⟩
  rintro _ rfl
  refine ⟨(v, (wr false g).1), ⟨⟨rfl, rfl, trivial⟩, by simpa using lv, by simp only; omega⟩, ⟨_, rfl⟩, ?_⟩
  rintro _ rfl
  rw [yw eu g0 gr (by rw [nu]; exact ds), yw ev g0 gr (by rw [nv]; exact dt), nu, nv, sv]
  simp only
  have hb : (negI u != false) = negI u := by cases negI u <;> rfl
  have hb2 : (false != false) = false := rfl
  rw [hb, hb2]
  have hw : wr (negI u) (numI s / g) = wr (negI s != negI t) (numI s / g) := JW fun h => su fun h5 => h (by rw [h5, Nat.zero_div])
  rw [hw]
  have rt := room_le (Nat.div_le_self (numI t) g) (qE h2)
  have k1 := jc (negI s != negI t) (numI s / g)
  have k2 := jc false (numI t / g)
  refine ⟨fun h => ?_, fun h => ⟨by omega, fun _ => ⟨by simp <;> omega, fun _ => ?_⟩⟩⟩
  ·have h1 := (Z6 rt).1 (of_decide_eq_true h)
   rw [if_pos h1] at hq
   exact RetR.scal hq rfl (by simp [resV])
  ·have h1 : ¬ numI t / g = 1 := fun h1 => of_decide_eq_false h ((Z6 rt).2 h1)
   rw [if_neg h1] at hq
   exact RetR.scal hq rfl (by simp [resV])
 have lt0 := List.length_pos_iff.2 htn
 refine ⟨⟨by omega, by omega⟩, fun _ => ⟨fun hb => ?_, fun hb => ?_⟩⟩
 ·have hn : negI t = true := by
   rw [hneg, decide_eq_true_eq]
   exact yg (of_decide_eq_true hb)
  refine ⟨s, ⟨by simp, h1, hs⟩, ⟨_, rfl⟩, ?_⟩
  rintro _ rfl
  refine ⟨t, ⟨by simp, h2, ht⟩, ⟨_, rfl⟩, ?_⟩
  rintro _ rfl
  have zs : (wz (-zI s)).2 = 0 := by rw [Z1, ye h1]
  have zt : (wz (-zI t)).2 = 0 := by rw [Z1, ye h2]
  have ws := zbt (-zI s)
  have wt := zbt (-zI t)
  have es := xt zs
  have et := xt zt
  refine fin _ _ es et (by rw [← qK, wX zs, Int.natAbs_neg, qK]) (by rw [← qK, wX zt, Int.natAbs_neg, qK]) ?_ (fun h => ?_) (by omega) (by omega)
  ·rw [kX et, wX zt]
   have : zI t < 0 := by have := kX h2; rw [hn] at this; exact of_decide_eq_true this.symm
   exact decide_eq_false (by omega)
  ·rw [kX es, wX zs, hn]
   have ha := qK s
   have hs2 := kX h1
   cases hm : negI s with
   | true => rw [hm] at hs2; have := of_decide_eq_true hs2.symm; exact decide_eq_false (by omega)
   | false => rw [hm] at hs2; have := of_decide_eq_false hs2.symm; exact decide_eq_true (by omega)
 ·have hn : negI t = false := by
   rw [hneg, decide_eq_false_iff_not]
   intro h
   apply of_decide_eq_false hb
   rw [h]; rfl
  exact fin s t h1 h2 rfl rfl hn (fun _ => by rw [hn]; cases negI s <;> rfl) hs ht
structure Q4 where
 n : List UInt8
 d : List UInt8
 m : List UInt8
 c : List UInt8
 e : Int
def u0 (a b : List UInt8) : Q4 := if qj a b ≠ 0 then ⟨[], [], [], [], qj a b⟩ else ⟨numR a, denR a, numR b, denR b, 0⟩
def KC : Ctr := ctrP true (fun p : List UInt8 × List UInt8 => [.str p.1, .str p.2]) (fun p => p.1.length < 2 ^ 40 ∧ p.2.length < 2 ^ 40) (fun p r => r = u0 p.1 p.2) (fun _ (r : Q4) => (.tup [.str r.n, .str r.d, .str r.m, .str r.c, .int .i64 r.e], []))
noncomputable def GRf : Nat → Option Ctr := fun f => if f = 40 then some (kT) else if f = 63 then some (ZI) else none
theorem zfi : ∀ g c, GRf g = some c → zd Tryz.prog g c := okIf kj (okIf ZJ (zp))
theorem Vr : zd Tryz.prog 67 KC := by
 refine ze (fn := Tryz.f67) (c := Tryz.f67.body.getD .skip) rfl rfl rfl fun p hp O w0 Q hq => ?_
 obtain ⟨a, b⟩ := p
 obtain ⟨ha, hb⟩ := hp
 replace hq := hq _ rfl
 simp only at ha hb hq
 unfold u0 qj at hq
 refine zb.run hmix zfi [] 400 (T := .ex (fun (x : List UInt8) => eqL [AV.str a] [AV.str x] ∧ x.length < 1099511627776) fun n => .all (fun (r : Int) => r = errR n) fun n => .ite (!decide (n = 0)) (.ex (fun (x : List UInt8) => eqL [AV.str a] [AV.str x] ∧ x.length < 1099511627776) fun n => .all (fun (r : Int) => r = errR n) fun n => .leaf (.ret [.str (Array.toList #[]), .str (Array.toList #[]), .str (Array.toList #[]), .str (Array.toList #[]), .int .i64 n] [])) (.ex (fun (x : List UInt8) => eqL [AV.str b] [AV.str x] ∧ x.length < 1099511627776) fun n => .all (fun (r : Int) => r = errR n) fun n => .ite (!decide (n = 0)) (.ex (fun (x : List UInt8) => eqL [AV.str b] [AV.str x] ∧ x.length < 1099511627776) fun n => .all (fun (r : Int) => r = errR n) fun n => .leaf (.ret [.str (Array.toList #[]), .str (Array.toList #[]), .str (Array.toList #[]), .str (Array.toList #[]), .int .i64 n] [])) (.ex (fun (x : List UInt8) => eqL [AV.str a] [AV.str x] ∧ x.length < 4611686018427387904) fun n => .all (fun (r : List UInt8 × List UInt8) => r = (Prod.fst (cutR n), if Prod.snd (Prod.snd (cutR n)) = true then Prod.fst (Prod.snd (cutR n)) else [(49 : UInt8)])) fun n => .ex (fun (x : List UInt8) => eqL [AV.str b] [AV.str x] ∧ x.length < 4611686018427387904) fun n_1 => .all (fun (r : List UInt8 × List UInt8) => r = (Prod.fst (cutR n_1), if Prod.snd (Prod.snd (cutR n_1)) = true then Prod.fst (Prod.snd (cutR n_1)) else [(49 : UInt8)])) fun n_2 => .leaf (.ret [.str n.1, .str n.2, .str n_2.1, .str n_2.2, .int .i64 0] [])))) (by kernel_rfl) ?_
 simp only [Tree.holds, zc]
 refine ⟨a, ⟨by simp, ha⟩, ⟨_, rfl⟩, ?_⟩
 rintro _ rfl
 refine ⟨fun h => ?_, fun h => ⟨b, ⟨by simp, hb⟩, ⟨_, rfl⟩, ?_⟩⟩
 ·have h : errR a ≠ 0 := by simpa using h
  rw [if_neg h, if_pos h] at hq
  refine ⟨a, ⟨by simp, ha⟩, ⟨_, rfl⟩, ?_⟩
  rintro _ rfl
  exact RetR.scal hq rfl (by simp [resV])
 ·have h : errR a = 0 := by simpa using h
  rw [if_pos h] at hq
  rintro _ rfl
  refine ⟨fun g => ?_, fun g => ⟨a, ⟨by simp, by show a.length < _; omega⟩, ⟨_, rfl⟩, ?_⟩⟩
  ·have g : errR b ≠ 0 := by simpa using g
   rw [if_pos g] at hq
   refine ⟨b, ⟨by simp, hb⟩, ⟨_, rfl⟩, ?_⟩
   rintro _ rfl
   exact RetR.scal hq rfl (by simp [resV])
  ·have g : errR b = 0 := by simpa using g
   rw [if_neg (by rw [g]; simp)] at hq
   rintro _ rfl
   refine ⟨b, ⟨by simp, by show b.length < _; omega⟩, ⟨_, rfl⟩, ?_⟩
   rintro _ rfl
   exact RetR.scal hq rfl (by simp [resV, numR, denR])
def JU (a b : List UInt8) : List UInt8 × List UInt8 × Int := if zE a b ≠ 0 then ([], [], zE a b) else ((mulI (numR a) (denR b)).1, (mulI (numR b) (denR a)).1, 0)
def Xf : Ctr := ctrP true (fun p : List UInt8 × List UInt8 => [.str p.1, .str p.2]) (fun p => p.1.length < 2 ^ 39 ∧ p.2.length < 2 ^ 39) (fun p r => r = JU p.1 p.2) (fun _ r => (.tup [.str r.1, .str r.2.1, .int .i64 r.2.2], []))
noncomputable def GRc : Nat → Option Ctr := fun f => if f = 67 then some (KC) else if f = 68 then some (UD) else none
theorem zf5 : ∀ g c, GRc g = some c → zd Tryz.prog g c := okIf Vr (okIf Xx (zp))
theorem Y5 : zd Tryz.prog 70 Xf := by
 refine ze (fn := Tryz.f70) (c := Tryz.f70.body.getD .skip) rfl rfl rfl fun p hp O w0 Q hq => ?_
 obtain ⟨a, b⟩ := p
 obtain ⟨ha, hb⟩ := hp
 replace hq := hq _ rfl
 simp only at ha hb hq
 have ea : zE a b = if qj a b ≠ 0 then qj a b else if (mulI (numR a) (denR b)).2 ≠ 0 ∨ (mulI (numR b) (denR a)).2 ≠ 0 then 14 else 0 := rfl
 unfold JU at hq
 refine zb.run hmix zf5 [] 400 (T := .ex (fun (x : List UInt8 × List UInt8) => eqL [AV.str a, AV.str b] [AV.str x.1, AV.str x.2] ∧ x.1.length < 1099511627776 ∧ x.2.length < 1099511627776) fun n => .all (fun (r : Q4) => r = u0 n.1 n.2) fun n => .ite (!decide (Q4.e n = 0)) (.leaf (.ret [.str (Array.toList #[]), .str (Array.toList #[]), .int .i64 n.e] [])) (.ex (fun (x : List UInt8 × List UInt8) => eqL [AV.str n.n, AV.str n.c] [AV.str x.1, AV.str x.2] ∧ x.1.length < 1099511627776 ∧ x.2.length < 1099511627776) fun n_1 => .all (fun (r : List UInt8 × Int) => r = mulI n_1.1 n_1.2) fun n_2 => .ex (fun (x : List UInt8 × List UInt8) => eqL [AV.str n.m, AV.str n.d] [AV.str x.1, AV.str x.2] ∧ x.1.length < 1099511627776 ∧ x.2.length < 1099511627776) fun n => .all (fun (r : List UInt8 × Int) => r = mulI n.1 n.2) fun n => .ite (bif !decide (n_2.2 = 0) then true else !decide (n.2 = 0)) (.leaf (.ret [.str (Array.toList #[]), .str (Array.toList #[]), .int .i64 14] [])) (.leaf (.ret [.str n_2.1, .str n.1, .int .i64 0] [])))) (by kernel_rfl) ?_
 simp only [Tree.holds, zc]
 refine ⟨(a, b), ⟨⟨rfl, rfl, trivial⟩, by show a.length < _; omega, by show b.length < _; omega⟩, ⟨_, rfl⟩, ?_⟩
 rintro _ rfl
 simp only [u0]
 by_cases he : qj a b = 0
 ·rw [if_neg (by rw [he]; simp)]
  rw [he, if_neg (by simp)] at ea
  have l1 := v7 a
  have l2 := wg a
  have l3 := v7 b
  have l4 := wg b
  refine ⟨fun h => (by cases h), fun _ => ?_⟩
  refine ⟨(numR a, denR b), ⟨⟨rfl, rfl, trivial⟩, by simp only; omega, by simp only; omega⟩, ⟨_, rfl⟩, ?_⟩
  rintro _ rfl
  refine ⟨(numR b, denR a), ⟨⟨rfl, rfl, trivial⟩, by simp only; omega, by simp only; omega⟩, ⟨_, rfl⟩, ?_⟩
  rintro _ rfl
  simp only
  by_cases h1 : (mulI (numR a) (denR b)).2 = 0
  ·by_cases h2 : (mulI (numR b) (denR a)).2 = 0
   ·rw [if_neg (by simp [h1, h2])] at ea
    rw [ea, if_neg (by simp)] at hq
    refine ⟨fun h => (by simp [h1, h2] at h), fun _ => RetR.scal hq rfl (by simp [resV])⟩
   ·rw [if_pos (.inr h2)] at ea
    rw [ea, if_pos (by decide)] at hq
    refine ⟨fun _ => RetR.scal hq rfl (by simp [resV]), fun h => (by simp [h1, h2] at h)⟩
  ·rw [if_pos (.inl h1)] at ea
   rw [ea, if_pos (by decide)] at hq
   refine ⟨fun _ => RetR.scal hq rfl (by simp [resV]), fun h => (by simp [h1] at h)⟩
 ·rw [if_pos he]
  rw [if_pos he] at ea
  rw [ea, if_pos he] at hq
  refine ⟨fun _ => RetR.scal hq rfl (by simp [resV]), fun h => (by simp [he] at h)⟩
structure QF where
 n : List UInt8
 d : List UInt8
 e : Int
 f : Int
def za8 : Ctr := ctrP true (fun k : QF => [.str k.n, .str k.d, .int .i64 k.e, .int .i64 k.f]) (fun k => k.n.length < 2 ^ 40 ∧ k.d.length < 2 ^ 40) (fun k r => r = frac (k.n, k.e) (k.d, k.f)) (fun _ r => (.tup [.str r.1, .int .i64 r.2], []))
noncomputable def GRg : Nat → Option Ctr := fun f => if f = 92 then some (Wd) else none
theorem zfq : ∀ g c, GRg g = some c → zd Tryz.prog g c := okIf zby (zp)
theorem Ua : zd Tryz.prog 69 za8 := by
 refine ze (fn := Tryz.f69) (c := Tryz.f69.body.getD .skip) rfl rfl rfl fun k hk O w0 Q hq => ?_
 obtain ⟨n, d, e, f⟩ := k
 obtain ⟨hn, hd⟩ := hk
 replace hq := hq _ rfl
 simp only at hn hd hq
 unfold frac at hq
 refine zb.run hmix zfq [] 400 (T := .ite (bif !decide (e = 0) then true else !decide (f = 0)) (.leaf (.ret [.str (Array.toList #[]), .int .i64 14] [])) (.ex (fun (x : List UInt8 × List UInt8) => eqL [AV.str n, AV.str d] [AV.str x.1, AV.str x.2] ∧ x.1.length < 1099511627776 ∧ x.2.length < 1099511627776) fun n => .all (fun (r : List UInt8 × Int) => r = qC n.1 n.2) fun n => .leaf (.ret [.str n.1, .int .i64 n.2] []))) (by kernel_rfl) ?_
 simp only [Tree.holds, zc]
 by_cases h : e ≠ 0 ∨ f ≠ 0
 ·rw [if_pos h] at hq
  refine ⟨fun _ => RetR.scal hq rfl (by simp [resV]), fun g => ?_⟩
  exfalso
  by_cases h1 : e = 0
  ·have h2 : f ≠ 0 := h.resolve_left (by simp [h1])
   simp [h1, h2] at g
  ·simp [h1] at g
 ·rw [if_neg h] at hq
  simp only [not_or, Classical.not_not] at h
  refine ⟨fun g => (by simp [h.1, h.2] at g), fun _ => ⟨(n, d), ⟨⟨rfl, rfl, trivial⟩, hn, hd⟩, ⟨_, rfl⟩, ?_⟩⟩
  rintro _ rfl
  exact RetR.scal hq rfl (by simp [resV])
def zbe : Ctr := ctrP true (fun p : List UInt8 × List UInt8 => [.str p.1, .str p.2]) (fun p => p.1.length < 2 ^ 39 ∧ p.2.length < 2 ^ 39) (fun p r => r = addR p.1 p.2) (fun _ r => (.tup [.str r.1, .int .i64 r.2], []))
def za9 : Ctr := ctrP true (fun p : List UInt8 × List UInt8 => [.str p.1, .str p.2]) (fun p => p.1.length < 2 ^ 39 ∧ p.2.length < 2 ^ 39) (fun p r => r = mulR p.1 p.2) (fun _ r => (.tup [.str r.1, .int .i64 r.2], []))
noncomputable def GRh : Nat → Option Ctr := fun f => if f = 67 then some (KC) else if f = 70 then some (Xf) else if f = 71 then some (Ub) else if f = 68 then some (UD) else if f = 69 then some (za8) else none
theorem zan : ∀ g c, GRh g = some c → zd Tryz.prog g c := okIf Vr (okIf Y5 (okIf zcn (okIf Xx (okIf Ua (zp)))))
theorem Uc : zd Tryz.prog 44 zbe := by
 refine ze (fn := Tryz.f44) (c := Tryz.f44.body.getD .skip) rfl rfl rfl fun p hp O w0 Q hq => ?_
 obtain ⟨a, b⟩ := p
 obtain ⟨ha, hb⟩ := hp
 replace hq := hq _ rfl
 simp only at ha hb hq
 unfold addR at hq
 refine zb.run hmix zan [] 400 (T := .ex (fun (x : List UInt8 × List UInt8) => eqL [AV.str a, AV.str b] [AV.str x.1, AV.str x.2] ∧ x.1.length < 549755813888 ∧ x.2.length < 549755813888) fun n => .all (fun (r : List UInt8 × List UInt8 × Int) => r = JU n.1 n.2) fun n => .ite (!decide (n.2.2 = 0)) (.leaf (.ret [.str (Array.toList #[]), .int .i64 n.2.2] [])) (.ex (fun (x : List UInt8 × List UInt8) => eqL [AV.str a, AV.str b] [AV.str x.1, AV.str x.2] ∧ x.1.length < 1099511627776 ∧ x.2.length < 1099511627776) fun n_1 => .all (fun (r : Q4) => r = u0 n_1.1 n_1.2) fun n_2 => .ex (fun (x : List UInt8 × List UInt8) => eqL [AV.str n.1, AV.str n.2.1] [AV.str x.1, AV.str x.2] ∧ x.1.length < 1099511627776 ∧ x.2.length < 1099511627776) fun n => .all (fun (r : List UInt8 × Int) => r = addI n.1 n.2) fun n => .ex (fun (x : List UInt8 × List UInt8) => eqL [AV.str n_2.d, AV.str n_2.c] [AV.str x.1, AV.str x.2] ∧ x.1.length < 1099511627776 ∧ x.2.length < 1099511627776) fun n_3 => .all (fun (r : List UInt8 × Int) => r = mulI n_3.1 n_3.2) fun n_4 => .ex (fun (x : QF) => eqL [AV.str n.1, AV.str n_4.1, AV.int .i64 n.2, AV.int .i64 n_4.2] [AV.str x.n, AV.str x.d, AV.int .i64 x.e, AV.int .i64 x.f] ∧ x.n.length < 1099511627776 ∧ x.d.length < 1099511627776) fun n => .all (fun (r : List UInt8 × Int) => r = frac (QF.n n, QF.e n) (QF.d n, QF.f n)) fun n => .leaf (.ret [.str n.1, .int .i64 n.2] []))) (by kernel_rfl) ?_
 simp only [Tree.holds, zc]
 refine ⟨(a, b), ⟨⟨rfl, rfl, trivial⟩, ha, hb⟩, ⟨_, rfl⟩, ?_⟩
 rintro _ rfl
 simp only [JU]
 by_cases he : zE a b = 0
 ·rw [if_neg (by rw [he]; simp)] at hq ⊢
  refine ⟨fun h => (by cases h), fun _ => ?_⟩
  have h2 : qj a b = 0 := by
   refine Decidable.byContradiction fun h => ?_
   unfold zE at he
   rw [if_pos h] at he
   exact h he
  have l1 := j0 (numR a) (denR b)
  have l2 := j0 (numR b) (denR a)
  have l3 := wg a
  have l4 := wg b
  have l5 := j0 (denR a) (denR b)
  have l6 := ZQ (mulI (numR a) (denR b)).1 (mulI (numR b) (denR a)).1
  refine ⟨(a, b), ⟨⟨rfl, rfl, trivial⟩, by show a.length < _; omega, by show b.length < _; omega⟩, ⟨_, rfl⟩, ?_⟩
  rintro _ rfl
  simp only [u0]
  rw [if_neg (by rw [h2]; simp)]
  refine ⟨((mulI (numR a) (denR b)).1, (mulI (numR b) (denR a)).1), ⟨⟨rfl, rfl, trivial⟩, by simp only; omega, by simp only; omega⟩, ⟨_, rfl⟩, ?_⟩
  rintro _ rfl
  refine ⟨(denR a, denR b), ⟨⟨rfl, rfl, trivial⟩, by simp only; omega, by simp only; omega⟩, ⟨_, rfl⟩, ?_⟩
  rintro _ rfl
  refine ⟨⟨_, _, _, _⟩, ⟨⟨rfl, rfl, ⟨rfl, rfl⟩, ⟨rfl, rfl⟩, trivial⟩, Nat.lt_of_le_of_lt (ZQ _ _) (by decide), Nat.lt_of_le_of_lt (j0 _ _) (by decide)⟩, ⟨_, rfl⟩, ?_⟩
  rintro _ rfl
  exact RetR.scal hq rfl (by simp [resV])
 ·rw [if_pos he] at hq ⊢
  refine ⟨fun _ => RetR.scal hq rfl (by simp [resV]), fun h => (by simp [he] at h)⟩
theorem Uw : zd Tryz.prog 43 za9 := by
 refine ze (fn := Tryz.f43) (c := Tryz.f43.body.getD .skip) rfl rfl rfl fun p hp O w0 Q hq => ?_
 obtain ⟨a, b⟩ := p
 obtain ⟨ha, hb⟩ := hp
 replace hq := hq _ rfl
 simp only at ha hb hq
 unfold mulR at hq
 refine zb.run hmix zan [] 400 (T := .ex (fun (x : List UInt8 × List UInt8) => eqL [AV.str a, AV.str b] [AV.str x.1, AV.str x.2] ∧ x.1.length < 1099511627776 ∧ x.2.length < 1099511627776) fun n => .all (fun (r : Q4) => r = u0 n.1 n.2) fun n => .ite (!decide (Q4.e n = 0)) (.leaf (.ret [.str (Array.toList #[]), .int .i64 n.e] [])) (.ex (fun (x : List UInt8 × List UInt8) => eqL [AV.str n.n, AV.str n.m] [AV.str x.1, AV.str x.2] ∧ x.1.length < 1099511627776 ∧ x.2.length < 1099511627776) fun n_1 => .all (fun (r : List UInt8 × Int) => r = mulI n_1.1 n_1.2) fun n_2 => .ex (fun (x : List UInt8 × List UInt8) => eqL [AV.str n.d, AV.str n.c] [AV.str x.1, AV.str x.2] ∧ x.1.length < 1099511627776 ∧ x.2.length < 1099511627776) fun n => .all (fun (r : List UInt8 × Int) => r = mulI n.1 n.2) fun n => .ex (fun (x : QF) => eqL [AV.str n_2.1, AV.str n.1, AV.int .i64 n_2.2, AV.int .i64 n.2] [AV.str x.n, AV.str x.d, AV.int .i64 x.e, AV.int .i64 x.f] ∧ x.n.length < 1099511627776 ∧ x.d.length < 1099511627776) fun n => .all (fun (r : List UInt8 × Int) => r = frac (QF.n n, QF.e n) (QF.d n, QF.f n)) fun n => .leaf (.ret [.str n.1, .int .i64 n.2] []))) (by kernel_rfl) ?_
 simp only [Tree.holds, zc]
 refine ⟨(a, b), ⟨⟨rfl, rfl, trivial⟩, by show a.length < _; omega, by show b.length < _; omega⟩, ⟨_, rfl⟩, ?_⟩
 rintro _ rfl
 simp only [u0]
 by_cases he : qj a b = 0
 ·rw [if_neg (by rw [he]; simp)] at hq ⊢
  refine ⟨fun h => (by cases h), fun _ => ?_⟩
  have l1 := v7 a
  have l2 := v7 b
  have l3 := wg a
  have l4 := wg b
  have l5 := j0 (denR a) (denR b)
  have l6 := j0 (numR a) (numR b)
  refine ⟨(numR a, numR b), ⟨⟨rfl, rfl, trivial⟩, by simp only; omega, by simp only; omega⟩, ⟨_, rfl⟩, ?_⟩
  rintro _ rfl
  refine ⟨(denR a, denR b), ⟨⟨rfl, rfl, trivial⟩, by simp only; omega, by simp only; omega⟩, ⟨_, rfl⟩, ?_⟩
  rintro _ rfl
  refine ⟨⟨_, _, _, _⟩, ⟨⟨rfl, rfl, ⟨rfl, rfl⟩, ⟨rfl, rfl⟩, trivial⟩, Nat.lt_of_le_of_lt (j0 _ _) (by decide), Nat.lt_of_le_of_lt (j0 _ _) (by decide)⟩, ⟨_, rfl⟩, ?_⟩
  rintro _ rfl
  exact RetR.scal hq rfl (by simp [resV])
 ·rw [if_pos he] at hq ⊢
  refine ⟨fun _ => RetR.scal hq rfl (by simp [resV]), fun h => (by simp [he] at h)⟩
end Go.Proofs.Tryz
end

/- The order of what is known. -/
section
set_option maxRecDepth 100000
open Go Go.Sx Go.Proofs Go.Nov
namespace Go.Proofs.Tryz
attribute [local simp] eqKV eqA eqA0 eqH eqB eqL eqL0
noncomputable def K57 : List Go.Sx.Item := [.code (Tryz.f57.body.getD .skip)]
def nanS : Ctr := ctrP true (fun s : List UInt8 => [.str s]) (fun _ => True) (fun s r => r = false) (fun _ (r : Bool) => (.bool r, []))
def nanI : Ctr := ctrP true (fun x : Int => [.int .i64 x]) (fun _ => True) (fun s r => r = false) (fun _ (r : Bool) => (.bool r, []))
theorem zcq : zd Tryz.prog 81 nanS := by
 refine ze (fn := Tryz.f81) (c := Tryz.f81.body.getD .skip) rfl rfl rfl fun s hs O w0 Q hq => ?_
 replace hq := hq _ rfl
 refine zb.run hmix zq [] 400 (T := .leaf (.ret [.bool !decide (s = s)] [])) (by kernel_rfl) ?_
 simp only [Tree.holds, zc]
 exact RetR.scal hq rfl (by simp [resV])
theorem zdc : zd Tryz.prog 82 nanI := by
 refine ze (fn := Tryz.f82) (c := Tryz.f82.body.getD .skip) rfl rfl rfl fun s hs O w0 Q hq => ?_
 replace hq := hq _ rfl
 refine zb.run hmix zq [] 400 (T := .leaf (.ret [.bool !decide (s = s)] [])) (by kernel_rfl) ?_
 simp only [Tree.holds, zc]
 exact RetR.scal hq rfl (by simp [resV])
def zec : Ctr := ctrP true (fun p : List UInt8 × List UInt8 => [.str p.1, .str p.2]) (fun _ => True) (fun p r => r = cmpS p.1 p.2) (fun _ (r : Int) => (.int .i64 r, []))
def zep : Ctr := ctrP true (fun p : Int × Int => [.int .i64 p.1, .int .i64 p.2]) (fun _ => True) (fun p r => r = cmpI p.1 p.2) (fun _ (r : Int) => (.int .i64 r, []))
noncomputable def GN2 : Nat → Option Ctr := fun f => if f = 81 then some (nanS) else if f = 82 then some (nanI) else none
theorem YZ : ∀ g c, GN2 g = some c → zd Tryz.prog g c := okIf zcq (okIf zdc (zp))
theorem zcv : zd Tryz.prog 58 zec := by
 refine ze (fn := Tryz.f58) (c := Tryz.f58.body.getD .skip) rfl rfl rfl fun p hs O w0 Q hq => ?_
 obtain ⟨s, t⟩ := p
 replace hq := hq _ rfl
 simp only at hq
 refine zb.run hmix YZ [] 400 (T := .ex (fun (x : List UInt8) => eqL [AV.str s] [AV.str x] ∧ True) fun n => .all (fun (r : Bool) => r = false) fun n => .ex (fun (x : List UInt8) => eqL [AV.str t] [AV.str x] ∧ True) fun n_1 => .all (fun (r : Bool) => r = false) fun n_2 => .ite n (.ite n_2 (.leaf (.ret [.int .i64 0] [])) (.leaf (.ret [.int .i64 (-1 : Int)] []))) (.ite n_2 (.leaf (.ret [.int .i64 1] [])) (.ite (Op.bytesLess s t) (.leaf (.ret [.int .i64 (-1 : Int)] [])) (.ite (!(Op.bytesLess s t || decide (s = t))) (.leaf (.ret [.int .i64 1] [])) (.leaf (.ret [.int .i64 0] [])))))) (by kernel_rfl) ?_
 simp only [Tree.holds, zc]
 refine ⟨s, ⟨by simp, trivial⟩, ⟨_, rfl⟩, ?_⟩
 rintro _ rfl
 refine ⟨t, ⟨by simp, trivial⟩, ⟨_, rfl⟩, ?_⟩
 rintro _ rfl
 refine ⟨fun h => (by cases h), fun _ => ⟨fun h => (by cases h), fun _ => ⟨fun h => ?_, fun h => ⟨fun h2 => ?_, fun h2 => ?_⟩⟩⟩⟩
 ·have : cmpS s t = -1 := by simp [cmpS, h]
  rw [this] at hq; exact RetR.scal hq rfl (by simp [resV])
 ·have h2 : s ≠ t := by simpa [h] using h2
  have : cmpS s t = 1 := by simp [cmpS, h, h2]
  rw [this] at hq; exact RetR.scal hq rfl (by simp [resV])
 ·have h2 : s = t := by simpa [h] using h2
  subst h2
  have : cmpS s s = 0 := by simp [cmpS, h]
  rw [this] at hq; exact RetR.scal hq rfl (by simp [resV])
theorem zco : zd Tryz.prog 59 zep := by
 refine ze (fn := Tryz.f59) (c := Tryz.f59.body.getD .skip) rfl rfl rfl fun p hs O w0 Q hq => ?_
 obtain ⟨s, t⟩ := p
 replace hq := hq _ rfl
 simp only at hq
 refine zb.run hmix YZ [] 400 (T := .ex (fun (x : Int) => eqL [AV.int .i64 s] [AV.int .i64 x] ∧ True) fun n => .all (fun (r : Bool) => r = false) fun n => .ex (fun (x : Int) => eqL [AV.int .i64 t] [AV.int .i64 x] ∧ True) fun n_1 => .all (fun (r : Bool) => r = false) fun n_2 => .ite n (.ite n_2 (.leaf (.ret [.int .i64 0] [])) (.leaf (.ret [.int .i64 (-1 : Int)] []))) (.ite n_2 (.leaf (.ret [.int .i64 1] [])) (.ite (decide (s < t)) (.leaf (.ret [.int .i64 (-1 : Int)] [])) (.ite (decide (t < s)) (.leaf (.ret [.int .i64 1] [])) (.leaf (.ret [.int .i64 0] [])))))) (by kernel_rfl) ?_
 simp only [Tree.holds, zc]
 refine ⟨s, ⟨by simp, trivial⟩, ⟨_, rfl⟩, ?_⟩
 rintro _ rfl
 refine ⟨t, ⟨by simp, trivial⟩, ⟨_, rfl⟩, ?_⟩
 rintro _ rfl
 refine ⟨fun h => (by cases h), fun _ => ⟨fun h => (by cases h), fun _ => ⟨fun h => ?_, fun h => ⟨fun h2 => ?_, fun h2 => ?_⟩⟩⟩⟩
 ·have h := of_decide_eq_true h
  have : cmpI s t = -1 := by simp [cmpI, h]
  rw [this] at hq; exact RetR.scal hq rfl (by simp [resV])
 ·have h := of_decide_eq_false h
  have h2 := of_decide_eq_true h2
  have : cmpI s t = 1 := by simp [cmpI, h, h2]
  rw [this] at hq; exact RetR.scal hq rfl (by simp [resV])
 ·have h := of_decide_eq_false h
  have h2 := of_decide_eq_false h2
  have : cmpI s t = 0 := by simp [cmpI, h, h2]
  rw [this] at hq; exact RetR.scal hq rfl (by simp [resV])
def orC : Ctr := ctrP true (fun l : List Int => [.sl l.length 1 (fun j _ => .int .i64 (l.getD j 0))]) (fun l => l.length < 2 ^ 40) (fun l r => r = orI l) (fun _ (r : Int) => (.int .i64 r, []))
def SOr (l : List Int) (i : Nat) : KV := [(3, .int .i64 0), (6, .sl l.length 1 (fun j _ => .int .i64 (l.getD j 0))), (7, .int .i64 (l.length : Int)), (8, .int .i64 (i : Int))]
theorem zgk : zd Tryz.prog 57 orC := by
 refine ze (fn := Tryz.f57) (c := Tryz.f57.body.getD .skip) rfl rfl rfl fun l hl O w0 Q hq => ?_
 replace hq := hq _ rfl
 refine zb.run hmix zq [3, 6, 7, 8] 400 (T := .leaf (.loop (Prod.fst (lps K57 0)) (Prod.snd (lps K57 0)) [(3, .int .i64 0), (6, .sl l.length 1 fun (j x : Nat) => .int .i64 (List.getD l j (0 : Int))), (7, .int .i64 l.length), (8, .int .i64 0)] [])) (by kernel_rfl) ?_
 simp only [Tree.holds, zc]
 refine zb.loop (ι := {i : Nat // i ≤ l.length ∧ orI (l.drop i) = orI l}) (fun i => SOr l i.1) (fun _ => []) (fun i => l.length - i.1) ⟨0, Nat.zero_le _, rfl⟩ 0 ?_ ?_ (by kernel_rfl)
 ·exact ⟨by simp [SOr, za], by simp, by kernel_rfl, Nat.zero_le _⟩
 ·rintro ⟨i, hil, hio⟩
  refine zb.run hmix zq [3, 6, 7, 8] 400 (T := .ite (decide ((↑i : Int) < l.length)) (.side ((0 : Int) ≤ i ∧ (↑i : Int) < l.length) (.ite (!decide (List.getD l (Int.toNat (↑i : Int)) (0 : Int) = 0)) (.leaf (.ret [.int .i64 (List.getD l (Int.toNat (↑i : Int)) (0 : Int))] [])) (.side (inR .i64 ((↑i : Int) + (1 : Int))) (.leaf (.back 0 [(3, .int .i64 0), (6, .sl l.length 1 fun (j x : Nat) => .int .i64 (List.getD l j (0 : Int))), (7, .int .i64 l.length), (8, .int .i64 ((↑i : Int) + (1 : Int)))] []))))) (.leaf (.ret [.int .i64 0] []))) (by kernel_rfl) ?_
  simp only [Tree.holds, zc, inR, lo, hi, Int.toNat_natCast]
  refine ⟨fun hlt => ?_, fun hge => ?_⟩
  ·have hlt : i < l.length := by have := of_decide_eq_true hlt; omega
   have hd : l.drop i = l.getD i 0 :: l.drop (i + 1) := by
    rw [List.drop_eq_getElem_cons hlt]; simp [List.getD, hlt]
   rw [hd] at hio
   refine ⟨by omega, fun _ => ⟨fun h => ?_, fun h => ⟨by omega, fun _ => ?_⟩⟩⟩
   ·have h : l.getD i 0 ≠ 0 := by simpa using h
    have : orI l = l.getD i 0 := by rw [← hio]; simp only [orI]; rw [if_neg h]
    rw [this] at hq; exact RetR.scal hq rfl (by simp [resV])
   ·have h : l.getD i 0 = 0 := by simpa using h
    rw [if_pos trivial]
    refine ⟨⟨i + 1, hlt, ?_⟩, by show l.length - (i + 1) < l.length - i; omega, by simp [SOr, za], by simp, by kernel_rfl, Nat.zero_le _⟩
    rw [← hio]; simp only [orI]; rw [if_pos h]
  ·have hge : i = l.length := by have := of_decide_eq_false hge; omega
   subst hge
   rw [List.drop_length] at hio
   rw [← hio] at hq; exact RetR.scal hq rfl (by simp [resV, orI])
def WI : Ctr := ctrP true (fun p : Fx × Fx => [p.1.av, p.2.av]) (fun _ => True) (fun p r => r = cmpF p.1 p.2) (fun _ (r : Int) => (.int .i64 r, []))
def Vx : Ctr := ctrP true (fun p : Ch × Ch => [p.1.av, p.2.av]) (fun _ => True) (fun p r => r = cmpC p.1 p.2) (fun _ (r : Int) => (.int .i64 r, []))
noncomputable def GN3 : Nat → Option Ctr := fun f => if f = 58 then some (zec) else if f = 59 then some (zep) else if f = 57 then some (orC) else none
theorem zai : ∀ g c, GN3 g = some c → zd Tryz.prog g c := okIf zcv (okIf zco (okIf zgk (zp)))
theorem YT (x y : Int) : eqG 2 1 (zg (zf 1 [.int .i64 x, .int .i64 y]) 0) (fun j _ => .int .i64 ([x, y].getD j 0)) := by
 intro j o hj ho
 have ho : o = 0 := by omega
 subst ho
 rcases j with _ | _ | j
 ·rfl
 ·rfl
 ·omega
theorem YN (x y z : Int) : eqG 3 1 (zg (zf 1 [.int .i64 x, .int .i64 y, .int .i64 z]) 0) (fun j _ => .int .i64 ([x, y, z].getD j 0)) := by
 intro j o hj ho
 have ho : o = 0 := by omega
 subst ho
 rcases j with _ | _ | _ | j
 ·rfl
 ·rfl
 ·rfl
 ·omega
theorem V6 : zd Tryz.prog 31 WI := by
 refine ze (fn := Tryz.f31) (c := Tryz.f31.body.getD .skip) rfl rfl rfl fun p hs O w0 Q hq => ?_
 obtain ⟨⟨a, d, v⟩, ⟨b, e, u⟩⟩ := p
 replace hq := hq _ rfl
 simp only at hq
 refine zb.run hmix zai [] 400 (T := .ex (fun (x : List UInt8 × List UInt8) => eqL [AV.str a, AV.str b] [AV.str x.1, AV.str x.2] ∧ True) fun n => .all (fun (r : Int) => r = cmpS n.1 n.2) fun n => .ex (fun (x : Int × Int) => eqL [AV.int .i64 d, AV.int .i64 e] [AV.int .i64 x.1, AV.int .i64 x.2] ∧ True) fun n_1 => .all (fun (r : Int) => r = cmpI n_1.1 n_1.2) fun n_2 => .ex (fun (x : List Int) => eqL [AV.sl 2 1 (zg (zf 1 [AV.int .i64 n, AV.int .i64 n_2]) 0)] [AV.sl x.length 1 fun (j x_1 : Nat) => AV.int .i64 (List.getD x j (0 : Int))] ∧ x.length < 1099511627776) fun n_3 => .all (fun (r : Int) => r = orI n_3) fun n_4 => .leaf (.ret [.int .i64 n_4] [.box [.str a, .int .i64 d, .str v], .box [.str b, .int .i64 e, .str u], .arr 2 1 (zf 1 [.int .i64 n, .int .i64 n_2])])) (by kernel_rfl) ?_
 simp only [Tree.holds, zc]
 refine ⟨(a, b), ⟨by simp, trivial⟩, ⟨_, rfl⟩, ?_⟩
 rintro _ rfl
 refine ⟨(d, e), ⟨by simp, trivial⟩, ⟨_, rfl⟩, ?_⟩
 rintro _ rfl
 refine ⟨[cmpS a b, cmpI d e], ⟨⟨⟨rfl, rfl, YT _ _⟩, trivial⟩, by simp⟩, ⟨_, rfl⟩, ?_⟩
 rintro _ rfl
 have : orI [cmpS a b, cmpI d e] = cmpF ⟨a, d, v⟩ ⟨b, e, u⟩ := by
  simp only [orI, cmpF]
  by_cases h : cmpS a b = 0
  ·simp only [h, if_true]; split <;> simp_all
  ·simp only [if_neg h]
 rw [this]
 exact RetR.scal hq rfl (by simp [resV])
theorem KI : zd Tryz.prog 33 Vx := by
 refine ze (fn := Tryz.f33) (c := Tryz.f33.body.getD .skip) rfl rfl rfl fun p hs O w0 Q hq => ?_
 obtain ⟨⟨a, d, v, f⟩, ⟨b, e, u, g⟩⟩ := p
 replace hq := hq _ rfl
 simp only at hq
 refine zb.run hmix zai [] 400 (T := .ex (fun (x : List UInt8 × List UInt8) => eqL [AV.str a, AV.str b] [AV.str x.1, AV.str x.2] ∧ True) fun n => .all (fun (r : Int) => r = cmpS n.1 n.2) fun n => .ex (fun (x : List UInt8 × List UInt8) => eqL [AV.str d, AV.str e] [AV.str x.1, AV.str x.2] ∧ True) fun n_1 => .all (fun (r : Int) => r = cmpS n_1.1 n_1.2) fun n_2 => .ex (fun (x : Int × Int) => eqL [AV.int .i64 v, AV.int .i64 u] [AV.int .i64 x.1, AV.int .i64 x.2] ∧ True) fun n_3 => .all (fun (r : Int) => r = cmpI n_3.1 n_3.2) fun n_4 => .ex (fun (x : List Int) => eqL [AV.sl 3 1 (zg (zf 1 [AV.int .i64 n, AV.int .i64 n_2, AV.int .i64 n_4]) 0)] [AV.sl x.length 1 fun (j x_1 : Nat) => AV.int .i64 (List.getD x j (0 : Int))] ∧ x.length < 1099511627776) fun n_5 => .all (fun (r : Int) => r = orI n_5) fun n_6 => .leaf (.ret [.int .i64 n_6] [.box [.str a, .str d, .int .i64 v, .bool f], .box [.str b, .str e, .int .i64 u, .bool g], .arr 3 1 (zf 1 [.int .i64 n, .int .i64 n_2, .int .i64 n_4])])) (by kernel_rfl) ?_
 simp only [Tree.holds, zc]
 refine ⟨(a, b), ⟨by simp, trivial⟩, ⟨_, rfl⟩, ?_⟩
 rintro _ rfl
 refine ⟨(d, e), ⟨by simp, trivial⟩, ⟨_, rfl⟩, ?_⟩
 rintro _ rfl
 refine ⟨(v, u), ⟨by simp, trivial⟩, ⟨_, rfl⟩, ?_⟩
 rintro _ rfl
 refine ⟨[cmpS a b, cmpS d e, cmpI v u], ⟨⟨⟨rfl, rfl, YN _ _ _⟩, trivial⟩, by simp⟩, ⟨_, rfl⟩, ?_⟩
 rintro _ rfl
 have : orI [cmpS a b, cmpS d e, cmpI v u] = cmpC ⟨a, d, v, f⟩ ⟨b, e, u, g⟩ := by
  simp only [orI, cmpC]
  by_cases h : cmpS a b = 0
  ·simp only [h, if_true]
   by_cases h2 : cmpS d e = 0
   ·simp only [h2, if_true]; split <;> simp_all
   ·simp only [if_neg h2]
  ·simp only [if_neg h]
 rw [this]
 exact RetR.scal hq rfl (by simp [resV])
end Go.Proofs.Tryz
end

/- What is known: the checks. -/
section
set_option maxRecDepth 100000
open Go Go.Sx Go.Proofs Go.Nov
namespace Go.Proofs.Tryz
attribute [local simp] eqKV eqA eqA0 eqH eqB eqL eqL0
noncomputable def K55 : List Go.Sx.Item := [.code (Tryz.f55.body.getD .skip)]
noncomputable def K56 : List Go.Sx.Item := [.code (Tryz.f56.body.getD .skip)]
noncomputable def K30 : List Go.Sx.Item := [.code (Tryz.f30.body.getD .skip)]
noncomputable def K32 : List Go.Sx.Item := [.code (Tryz.f32.body.getD .skip)]
def jd (f : Fx) : Prop := f.name.length < 2 ^ 40 ∧ f.value.length < 2 ^ 40
def vX (c : Ch) : Prop := c.zL.length < 2 ^ 40 ∧ c.name.length < 2 ^ 40
def zed : Ctr := ctrP true (fun f : Fx => [f.av]) jd (fun f r => r = !okF f) (fun _ (r : Bool) => (.bool r, []))
def zea : Ctr := ctrP true (fun c : Ch => [c.av]) vX (fun c r => r = !okC c) (fun _ (r : Bool) => (.bool r, []))
noncomputable def GE1 : Nat → Option Ctr := fun f => if f = 23 then some (yz) else if f = 26 then some (xo) else if f = 24 then some (uN) else none
theorem Un : ∀ g c, GE1 g = some c → zd Tryz.prog g c := okIf XC (okIf YR (okIf yT (zp)))
theorem zcg : zd Tryz.prog 25 zed := by
 refine ze (fn := Tryz.f25) (c := Tryz.f25.body.getD .skip) rfl rfl rfl fun f hs O w0 Q hq => ?_
 obtain ⟨a, d, v⟩ := f
 obtain ⟨h1, h2⟩ := hs
 replace hq := hq _ rfl
 simp only [okF] at hq h1 h2
 refine zb.run hmix Un [] 400 (T := .ex (fun (x : List UInt8) => eqL [AV.str a] [AV.str x] ∧ x.length < 4611686018427387904) fun n => .all (fun (r : Bool) => r = zD n) fun n => .ex (fun (x : Int) => (!n) = false → eqL [AV.int .i64 d] [AV.int .i64 x] ∧ True) fun n_1 => .all (fun (x : Bool) => (!n) = false → x = dayB n_1) fun n_2 => .ex (fun (x : List UInt8) => (bif !n then true else !n_2) = false → eqL [AV.str v] [AV.str x] ∧ x.length < 4611686018427387904) fun n_3 => .all (fun (x : Int) => (bif !n then true else !n_2) = false → x = errR n_3) fun n_4 => .leaf (.ret [.bool (bif bif !n then true else !n_2 then true else !decide (n_4 = 0))] [.box [.str a, .int .i64 d, .str v]])) (by kernel_rfl) ?_
 simp only [Tree.holds, zc]
 refine ⟨a, ⟨by simp, by omega⟩, ⟨_, rfl⟩, ?_⟩
 rintro _ rfl
 refine ⟨d, fun _ => ⟨by simp, trivial⟩, ⟨_, fun _ => rfl⟩, ?_⟩
 intro x hx
 refine ⟨v, fun _ => ⟨by simp, by omega⟩, ⟨_, fun _ => rfl⟩, ?_⟩
 intro y hy
 refine RetR.scal hq rfl ?_
 simp only [resV]
 cases hn : zD a with
 | false => rfl
 | true =>
  rw [hx (by rw [hn]; rfl)] at hy ⊢
  cases hd : dayB d with
  | false => rfl
  | true => rw [hy (by rw [hn, hd]; rfl)]; rfl
theorem zdp : zd Tryz.prog 27 zea := by
 refine ze (fn := Tryz.f27) (c := Tryz.f27.body.getD .skip) rfl rfl rfl fun f hs O w0 Q hq => ?_
 obtain ⟨a, v, d, f⟩ := f
 obtain ⟨h1, h2⟩ := hs
 replace hq := hq _ rfl
 simp only [okC] at hq h1 h2
 refine zb.run hmix Un [] 400 (T := .ex (fun (x : List UInt8) => eqL [AV.str a] [AV.str x] ∧ x.length < 4611686018427387904) fun n => .all (fun (r : Bool) => r = zD n) fun n => .ex (fun (x : List UInt8) => (!n) = false → eqL [AV.str v] [AV.str x] ∧ x.length < 4611686018427387904) fun n_1 => .all (fun (x : Bool) => (!n) = false → x = zD n_1) fun n_2 => .ex (fun (x : Int) => (bif !n then true else !n_2) = false → eqL [AV.int .i64 d] [AV.int .i64 x] ∧ True) fun n_3 => .all (fun (x : Bool) => (bif !n then true else !n_2) = false → x = dayB n_3) fun n_4 => .leaf (.ret [.bool (bif bif !n then true else !n_2 then true else !n_4)] [.box [.str a, .str v, .int .i64 d, .bool f]])) (by kernel_rfl) ?_
 simp only [Tree.holds, zc]
 refine ⟨a, ⟨by simp, by omega⟩, ⟨_, rfl⟩, ?_⟩
 rintro _ rfl
 refine ⟨v, fun _ => ⟨by simp, by omega⟩, ⟨_, fun _ => rfl⟩, ?_⟩
 intro x hx
 refine ⟨d, fun _ => ⟨by simp, trivial⟩, ⟨_, fun _ => rfl⟩, ?_⟩
 intro y hy
 refine RetR.scal hq rfl ?_
 simp only [resV]
 cases hn : zD a with
 | false => rfl
 | true =>
  rw [hx (by rw [hn]; rfl)] at hy ⊢
  cases hd : zD v with
  | false => rfl
  | true => rw [hy (by rw [hn, hd]; rfl)]; rfl
def zef : Ctr := ctrP true (fun l : List Fx => [fxS l, .fn 25 [] []]) (fun l => l.length < 2 ^ 40 ∧ ∀ j, j < l.length → jd (l.getD j Fx.nil)) (fun l r => r = idxB (fun x => !okF x) l) (fun _ (r : Int) => (.int .i64 r, []))
def SIxF (l : List Fx) (i : Nat) : KV := [(0, fxS l), (1, .fn 25 [] []), (7, .int .i64 (l.length : Int)), (8, .int .i64 (i : Int))]
noncomputable def GE2F : Nat → Option Ctr := fun f => if f = 25 then some (zed) else none
theorem Xd : ∀ g c, GE2F g = some c → zd Tryz.prog g c := okIf zcg (zp)
theorem zcb : zd Tryz.prog 55 zef := by
 refine ze (fn := Tryz.f55) (c := Tryz.f55.body.getD .skip) rfl rfl rfl fun l hl O w0 Q hq => ?_
 obtain ⟨hl, hsm⟩ := hl
 replace hq := hq _ rfl
 refine zb.run hmix Xd [0, 1, 7, 8] 400 (T := .leaf (.loop (Prod.fst (lps K55 0)) (Prod.snd (lps K55 0)) [(0, .sl l.length 3 (fxG l)), (1, .fn 25 [] []), (7, .int .i64 l.length), (8, .int .i64 0)] [])) (by kernel_rfl) ?_
 simp only [Tree.holds, zc]
 refine zb.loop (ι := {i : Nat // i ≤ l.length ∧ ∀ j, j < i → (!okF (l.getD j Fx.nil)) = false}) (fun i => SIxF l i.1) (fun _ => []) (fun i => l.length - i.1) ⟨0, Nat.zero_le _, fun j hj => by omega⟩ 0 ?_ ?_ (by kernel_rfl)
 ·exact ⟨by simp [SIxF, fxS, za], by simp, by kernel_rfl, Nat.zero_le _⟩
 ·rintro ⟨i, hil, hib⟩
  refine zb.run hmix Xd [0, 1, 7, 8] 400 (T := .ite (decide ((↑i : Int) < l.length)) (.side ((0 : Int) ≤ i ∧ (↑i : Int) < l.length) (.ex (fun (x : Fx) => eqL [AV.agg [AV.str (Fx.name (List.getD l (Int.toNat (↑i : Int)) Fx.nil)), AV.int .i64 (Fx.date (List.getD l (Int.toNat (↑i : Int)) Fx.nil)), AV.str (Fx.value (List.getD l (Int.toNat (↑i : Int)) Fx.nil))]] [AV.agg [AV.str x.name, AV.int .i64 x.date, AV.str x.value]] ∧ jd x) fun n => .all (fun (r : Bool) => r = !okF n) fun n => .ite n (.leaf (.ret [.int .i64 i] [])) (.side (inR .i64 ((↑i : Int) + (1 : Int))) (.leaf (.back 0 [(0, .sl l.length 3 (fxG l)), (1, .fn 25 [] []), (7, .int .i64 l.length), (8, .int .i64 ((↑i : Int) + (1 : Int)))] []))))) (.leaf (.ret [.int .i64 (-1 : Int)] []))) (by kernel_rfl) ?_
  simp only [Tree.holds, zc, inR, lo, hi, Int.toNat_natCast]
  refine ⟨fun hlt => ?_, fun hge => ?_⟩
  ·have hlt : i < l.length := by have := of_decide_eq_true hlt; omega
   refine ⟨by omega, fun _ => ⟨l.getD i Fx.nil, ⟨by simp, hsm i hlt⟩, ⟨_, rfl⟩, ?_⟩⟩
   rintro _ rfl
   refine ⟨fun h => ?_, fun h => ⟨by omega, fun _ => ?_⟩⟩
   ·rw [XF hlt h hib] at hq
    exact RetR.scal hq rfl (by simp [resV])
   ·rw [if_pos trivial]
    refine ⟨⟨i + 1, hlt, fun j hj => ?_⟩, by show l.length - (i + 1) < l.length - i; omega, by simp [SIxF, fxS, za], by simp, by kernel_rfl, Nat.zero_le _⟩
    rcases Nat.lt_or_ge j i with h1 | h1
    ·exact hib j h1
    ·have : j = i := by omega
     rw [this]; exact h
  ·have hge : i = l.length := by have := of_decide_eq_false hge; omega
   subst hge
   rw [Q6 hib] at hq
   exact RetR.scal hq rfl (by simp [resV])
def ze1 : Ctr := ctrP true (fun l : List Fx => [fxS l, .fn 25 [] []]) (fun l => l.length < 2 ^ 40 ∧ ∀ j, j < l.length → jd (l.getD j Fx.nil)) (fun l r => r = l.any fun x => !okF x) (fun _ (r : Bool) => (.bool r, []))
noncomputable def GE3F : Nat → Option Ctr := fun f => if f = 55 then some (zef) else none
theorem zcf : ∀ g c, GE3F g = some c → zd Tryz.prog g c := okIf zcb (zp)
theorem zd0 : zd Tryz.prog 28 ze1 := by
 refine ze (fn := Tryz.f28) (c := Tryz.f28.body.getD .skip) rfl rfl rfl fun l hl O w0 Q hq => ?_
 replace hq := hq _ rfl
 refine zb.run hmix zcf [] 400 (T := .ex (fun (x : List Fx) => eqL [AV.sl l.length 3 (fxG l), AV.fn 25 [] []] [AV.sl x.length 3 (fxG x), AV.fn 25 [] []] ∧ x.length < 1099511627776 ∧ ∀ (j : Nat), j < x.length → jd (x.getD j Fx.nil)) fun n => .all (fun (r : Int) => r = idxB (fun (x : Fx) => !okF x) n) fun n => .leaf (.ret [.bool (decide ((0 : Int) ≤ n))] [])) (by kernel_rfl) ?_
 simp only [Tree.holds, zc]
 refine ⟨l, ⟨by simp [za], hl⟩, ⟨_, rfl⟩, ?_⟩
 rintro _ rfl
 rw [← Wn] at hq
 exact RetR.scal hq rfl (by simp [resV])
def ze5 : Ctr := ctrP true (fun l : List Ch => [chS l, .fn 27 [] []]) (fun l => l.length < 2 ^ 40 ∧ ∀ j, j < l.length → vX (l.getD j Ch.nil)) (fun l r => r = idxB (fun x => !okC x) l) (fun _ (r : Int) => (.int .i64 r, []))
def SIxC (l : List Ch) (i : Nat) : KV := [(0, chS l), (1, .fn 27 [] []), (7, .int .i64 (l.length : Int)), (8, .int .i64 (i : Int))]
noncomputable def GE2C : Nat → Option Ctr := fun f => if f = 27 then some (zea) else none
theorem Xi : ∀ g c, GE2C g = some c → zd Tryz.prog g c := okIf zdp (zp)
theorem zcj : zd Tryz.prog 56 ze5 := by
 refine ze (fn := Tryz.f56) (c := Tryz.f56.body.getD .skip) rfl rfl rfl fun l hl O w0 Q hq => ?_
 obtain ⟨hl, hsm⟩ := hl
 replace hq := hq _ rfl
 refine zb.run hmix Xi [0, 1, 7, 8] 400 (T := .leaf (.loop (Prod.fst (lps K56 0)) (Prod.snd (lps K56 0)) [(0, .sl l.length 4 (chG l)), (1, .fn 27 [] []), (7, .int .i64 l.length), (8, .int .i64 0)] [])) (by kernel_rfl) ?_
 simp only [Tree.holds, zc]
 refine zb.loop (ι := {i : Nat // i ≤ l.length ∧ ∀ j, j < i → (!okC (l.getD j Ch.nil)) = false}) (fun i => SIxC l i.1) (fun _ => []) (fun i => l.length - i.1) ⟨0, Nat.zero_le _, fun j hj => by omega⟩ 0 ?_ ?_ (by kernel_rfl)
 ·exact ⟨by simp [SIxC, chS, za], by simp, by kernel_rfl, Nat.zero_le _⟩
 ·rintro ⟨i, hil, hib⟩
  refine zb.run hmix Xi [0, 1, 7, 8] 400 (T := .ite (decide ((↑i : Int) < l.length)) (.side ((0 : Int) ≤ i ∧ (↑i : Int) < l.length) (.ex (fun (x : Ch) => eqL [AV.agg [AV.str (Ch.zL (List.getD l (Int.toNat (↑i : Int)) Ch.nil)), AV.str (Ch.name (List.getD l (Int.toNat (↑i : Int)) Ch.nil)), AV.int .i64 (Ch.date (List.getD l (Int.toNat (↑i : Int)) Ch.nil)), AV.bool (Ch.first (List.getD l (Int.toNat (↑i : Int)) Ch.nil))]] [AV.agg [AV.str x.zL, AV.str x.name, AV.int .i64 x.date, AV.bool x.first]] ∧ vX x) fun n => .all (fun (r : Bool) => r = !okC n) fun n => .ite n (.leaf (.ret [.int .i64 i] [])) (.side (inR .i64 ((↑i : Int) + (1 : Int))) (.leaf (.back 0 [(0, .sl l.length 4 (chG l)), (1, .fn 27 [] []), (7, .int .i64 l.length), (8, .int .i64 ((↑i : Int) + (1 : Int)))] []))))) (.leaf (.ret [.int .i64 (-1 : Int)] []))) (by kernel_rfl) ?_
  simp only [Tree.holds, zc, inR, lo, hi, Int.toNat_natCast]
  refine ⟨fun hlt => ?_, fun hge => ?_⟩
  ·have hlt : i < l.length := by have := of_decide_eq_true hlt; omega
   refine ⟨by omega, fun _ => ⟨l.getD i Ch.nil, ⟨by simp, hsm i hlt⟩, ⟨_, rfl⟩, ?_⟩⟩
   rintro _ rfl
   refine ⟨fun h => ?_, fun h => ⟨by omega, fun _ => ?_⟩⟩
   ·rw [XF hlt h hib] at hq
    exact RetR.scal hq rfl (by simp [resV])
   ·rw [if_pos trivial]
    refine ⟨⟨i + 1, hlt, fun j hj => ?_⟩, by show l.length - (i + 1) < l.length - i; omega, by simp [SIxC, chS, za], by simp, by kernel_rfl, Nat.zero_le _⟩
    rcases Nat.lt_or_ge j i with h1 | h1
    ·exact hib j h1
    ·have : j = i := by omega
     rw [this]; exact h
  ·have hge : i = l.length := by have := of_decide_eq_false hge; omega
   subst hge
   rw [Q6 hib] at hq
   exact RetR.scal hq rfl (by simp [resV])
def ze7 : Ctr := ctrP true (fun l : List Ch => [chS l, .fn 27 [] []]) (fun l => l.length < 2 ^ 40 ∧ ∀ j, j < l.length → vX (l.getD j Ch.nil)) (fun l r => r = l.any fun x => !okC x) (fun _ (r : Bool) => (.bool r, []))
noncomputable def GE3C : Nat → Option Ctr := fun f => if f = 56 then some (ze5) else none
theorem zd9 : ∀ g c, GE3C g = some c → zd Tryz.prog g c := okIf zcj (zp)
theorem zdv : zd Tryz.prog 29 ze7 := by
 refine ze (fn := Tryz.f29) (c := Tryz.f29.body.getD .skip) rfl rfl rfl fun l hl O w0 Q hq => ?_
 replace hq := hq _ rfl
 refine zb.run hmix zd9 [] 400 (T := .ex (fun (x : List Ch) => eqL [AV.sl l.length 4 (chG l), AV.fn 27 [] []] [AV.sl x.length 4 (chG x), AV.fn 27 [] []] ∧ x.length < 1099511627776 ∧ ∀ (j : Nat), j < x.length → vX (x.getD j Ch.nil)) fun n => .all (fun (r : Int) => r = idxB (fun (x : Ch) => !okC x) n) fun n => .leaf (.ret [.bool (decide ((0 : Int) ≤ n))] [])) (by kernel_rfl) ?_
 simp only [Tree.holds, zc]
 refine ⟨l, ⟨by simp [za], hl⟩, ⟨_, rfl⟩, ?_⟩
 rintro _ rfl
 rw [← Wn] at hq
 exact RetR.scal hq rfl (by simp [resV])
def ze8 : Ctr := ctrP true (fun l : List Fx => [fxS l, .fn 31 [] []]) (fun l => l.length < 2 ^ 40) (fun l r => r = ordB cmpF Fx.nil l) (fun _ (r : Bool) => (.bool r, []))
def SOdF (l : List Fx) (i : Nat) : KV := [(0, fxS l), (1, .fn 31 [] []), (5, .int .i64 (i : Int))]
noncomputable def GE4F : Nat → Option Ctr := fun f => if f = 31 then some (WI) else none
theorem XS : ∀ g c, GE4F g = some c → zd Tryz.prog g c := okIf V6 (zp)
theorem zct : zd Tryz.prog 30 ze8 := by
 refine ze (fn := Tryz.f30) (c := Tryz.f30.body.getD .skip) rfl rfl rfl fun l hl O w0 Q hq => ?_
 replace hq := hq _ rfl
 refine zb.run hmix XS [0, 1, 5] 400 (T := .leaf (.loop (Prod.fst (lps K30 0)) (Prod.snd (lps K30 0)) [(0, .sl l.length 3 (fxG l)), (1, .fn 31 [] []), (5, .int .i64 1)] [])) (by kernel_rfl) ?_
 simp only [Tree.holds, zc]
 refine zb.loop (ι := {i : Nat // 0 < i ∧ (i ≤ l.length ∨ i = 1) ∧ ∀ j, j + 1 < i → cmpF (l.getD j Fx.nil) (l.getD (j + 1) Fx.nil) < 0}) (fun i => SOdF l i.1) (fun _ => []) (fun i => l.length - i.1) ⟨1, Nat.one_pos, .inr rfl, fun j hj => by omega⟩ 0 ?_ ?_ (by kernel_rfl)
 ·exact ⟨by simp [SOdF, fxS, za], by simp, by kernel_rfl, Nat.zero_le _⟩
 ·rintro ⟨i, hi0, hil, hib⟩
  refine zb.run hmix XS [0, 1, 5] 400 (T := .ite (decide ((↑i : Int) < l.length)) (.side (inR .i64 ((↑i : Int) - (1 : Int))) (.side ((0 : Int) ≤ i - (1 : Int) ∧ (↑i : Int) - (1 : Int) < l.length) (.side ((0 : Int) ≤ i ∧ (↑i : Int) < l.length) (.ex (fun (x : Fx × Fx) => eqL [AV.agg [AV.str (Fx.name (List.getD l (Int.toNat ((↑i : Int) - (1 : Int))) Fx.nil)), AV.int .i64 (Fx.date (List.getD l (Int.toNat ((↑i : Int) - (1 : Int))) Fx.nil)), AV.str (Fx.value (List.getD l (Int.toNat ((↑i : Int) - (1 : Int))) Fx.nil))], AV.agg [AV.str (Fx.name (List.getD l (Int.toNat (↑i : Int)) Fx.nil)), AV.int .i64 (Fx.date (List.getD l (Int.toNat (↑i : Int)) Fx.nil)), AV.str (Fx.value (List.getD l (Int.toNat (↑i : Int)) Fx.nil))]] [AV.agg [AV.str x.1.name, AV.int .i64 x.1.date, AV.str x.1.value], AV.agg [AV.str x.2.name, AV.int .i64 x.2.date, AV.str x.2.value]] ∧ True) fun n => .all (fun (r : Int) => r = cmpF n.1 n.2) fun n => .ite (decide ((0 : Int) ≤ n)) (.leaf (.ret [.bool false] [])) (.side (inR .i64 ((↑i : Int) + (1 : Int))) (.leaf (.back 0 [(0, .sl l.length 3 (fxG l)), (1, .fn 31 [] []), (5, .int .i64 ((↑i : Int) + (1 : Int)))] []))))))) (.leaf (.ret [.bool true] []))) (by kernel_rfl) ?_
  simp only [Tree.holds, zc, inR, lo, hi, Int.toNat_natCast]
  have e : ((i : Int) - 1).toNat = i - 1 := by omega
  have e2 : i - 1 + 1 = i := by omega
  refine ⟨fun hlt => ?_, fun hge => ?_⟩
  ·have hlt : i < l.length := by have := of_decide_eq_true hlt; omega
   simp only [e]
   refine ⟨by omega, fun _ => ⟨by omega, fun _ => ⟨by omega, fun _ => ⟨(l.getD (i - 1) Fx.nil, l.getD i Fx.nil), ⟨by simp, trivial⟩, ⟨_, rfl⟩, ?_⟩⟩⟩⟩
   rintro _ rfl
   refine ⟨fun h => ?_, fun h => ⟨by omega, fun _ => ?_⟩⟩
   ·have h := of_decide_eq_true h
    rw [xO (z := Fx.nil) (j := i - 1) (by omega) (by rw [e2]; simp only at h; omega)] at hq
    exact RetR.scal hq rfl (by simp [resV])
   ·have h := of_decide_eq_false h
    rw [if_pos trivial]
    refine ⟨⟨i + 1, by omega, .inl hlt, fun j hj => ?_⟩, by show l.length - (i + 1) < l.length - i; omega, by simp [SOdF, fxS, za], by simp, by kernel_rfl, Nat.zero_le _⟩
    rcases Nat.lt_or_ge (j + 1) i with h1 | h1
    ·exact hib j h1
    ·have : j = i - 1 := by omega
     rw [this, e2]; simp only at h; omega
  ·have hge : l.length ≤ i := by have := of_decide_eq_false hge; omega
   rw [kF (z := Fx.nil) fun j hj => hib j (by omega)] at hq
   exact RetR.scal hq rfl (by simp [resV])
def zei : Ctr := ctrP true (fun l : List Ch => [chS l, .fn 33 [] []]) (fun l => l.length < 2 ^ 40) (fun l r => r = ordB cmpC Ch.nil l) (fun _ (r : Bool) => (.bool r, []))
def SOdC (l : List Ch) (i : Nat) : KV := [(0, chS l), (1, .fn 33 [] []), (5, .int .i64 (i : Int))]
noncomputable def GE4C : Nat → Option Ctr := fun f => if f = 33 then some (Vx) else none
theorem XA : ∀ g c, GE4C g = some c → zd Tryz.prog g c := okIf KI (zp)
theorem zd5 : zd Tryz.prog 32 zei := by
 refine ze (fn := Tryz.f32) (c := Tryz.f32.body.getD .skip) rfl rfl rfl fun l hl O w0 Q hq => ?_
 replace hq := hq _ rfl
 refine zb.run hmix XA [0, 1, 5] 400 (T := .leaf (.loop (Prod.fst (lps K32 0)) (Prod.snd (lps K32 0)) [(0, .sl l.length 4 (chG l)), (1, .fn 33 [] []), (5, .int .i64 1)] [])) (by kernel_rfl) ?_
 simp only [Tree.holds, zc]
 refine zb.loop (ι := {i : Nat // 0 < i ∧ (i ≤ l.length ∨ i = 1) ∧ ∀ j, j + 1 < i → cmpC (l.getD j Ch.nil) (l.getD (j + 1) Ch.nil) < 0}) (fun i => SOdC l i.1) (fun _ => []) (fun i => l.length - i.1) ⟨1, Nat.one_pos, .inr rfl, fun j hj => by omega⟩ 0 ?_ ?_ (by kernel_rfl)
 ·exact ⟨by simp [SOdC, chS, za], by simp, by kernel_rfl, Nat.zero_le _⟩
 ·rintro ⟨i, hi0, hil, hib⟩
  refine zb.run hmix XA [0, 1, 5] 400 (T := .ite (decide ((↑i : Int) < l.length)) (.side (inR .i64 ((↑i : Int) - (1 : Int))) (.side ((0 : Int) ≤ i - (1 : Int) ∧ (↑i : Int) - (1 : Int) < l.length) (.side ((0 : Int) ≤ i ∧ (↑i : Int) < l.length) (.ex (fun (x : Ch × Ch) => eqL [AV.agg [AV.str (Ch.zL (List.getD l (Int.toNat ((↑i : Int) - (1 : Int))) Ch.nil)), AV.str (Ch.name (List.getD l (Int.toNat ((↑i : Int) - (1 : Int))) Ch.nil)), AV.int .i64 (Ch.date (List.getD l (Int.toNat ((↑i : Int) - (1 : Int))) Ch.nil)), AV.bool (Ch.first (List.getD l (Int.toNat ((↑i : Int) - (1 : Int))) Ch.nil))], AV.agg [AV.str (Ch.zL (List.getD l (Int.toNat (↑i : Int)) Ch.nil)), AV.str (Ch.name (List.getD l (Int.toNat (↑i : Int)) Ch.nil)), AV.int .i64 (Ch.date (List.getD l (Int.toNat (↑i : Int)) Ch.nil)), AV.bool (Ch.first (List.getD l (Int.toNat (↑i : Int)) Ch.nil))]] [AV.agg [AV.str x.1.zL, AV.str x.1.name, AV.int .i64 x.1.date, AV.bool x.1.first], AV.agg [AV.str x.2.zL, AV.str x.2.name, AV.int .i64 x.2.date, AV.bool x.2.first]] ∧ True) fun n => .all (fun (r : Int) => r = cmpC n.1 n.2) fun n => .ite (decide ((0 : Int) ≤ n)) (.leaf (.ret [.bool false] [])) (.side (inR .i64 ((↑i : Int) + (1 : Int))) (.leaf (.back 0 [(0, .sl l.length 4 (chG l)), (1, .fn 33 [] []), (5, .int .i64 ((↑i : Int) + (1 : Int)))] []))))))) (.leaf (.ret [.bool true] []))) (by kernel_rfl) ?_
  simp only [Tree.holds, zc, inR, lo, hi, Int.toNat_natCast]
  have e : ((i : Int) - 1).toNat = i - 1 := by omega
  have e2 : i - 1 + 1 = i := by omega
  refine ⟨fun hlt => ?_, fun hge => ?_⟩
  ·have hlt : i < l.length := by have := of_decide_eq_true hlt; omega
   simp only [e]
   refine ⟨by omega, fun _ => ⟨by omega, fun _ => ⟨by omega, fun _ => ⟨(l.getD (i - 1) Ch.nil, l.getD i Ch.nil), ⟨by simp, trivial⟩, ⟨_, rfl⟩, ?_⟩⟩⟩⟩
   rintro _ rfl
   refine ⟨fun h => ?_, fun h => ⟨by omega, fun _ => ?_⟩⟩
   ·have h := of_decide_eq_true h
    rw [xO (z := Ch.nil) (j := i - 1) (by omega) (by rw [e2]; simp only at h; omega)] at hq
    exact RetR.scal hq rfl (by simp [resV])
   ·have h := of_decide_eq_false h
    rw [if_pos trivial]
    refine ⟨⟨i + 1, by omega, .inl hlt, fun j hj => ?_⟩, by show l.length - (i + 1) < l.length - i; omega, by simp [SOdC, chS, za], by simp, by kernel_rfl, Nat.zero_le _⟩
    rcases Nat.lt_or_ge (j + 1) i with h1 | h1
    ·exact hib j h1
    ·have : j = i - 1 := by omega
     rw [this, e2]; simp only at h; omega
  ·have hge : l.length ≤ i := by have := of_decide_eq_false hge; omega
   rw [kF (z := Ch.nil) fun j hj => hib j (by omega)] at hq
   exact RetR.scal hq rfl (by simp [resV])
def envP (p : List Fx × List Ch) : Prop := p.1.length < 2 ^ 40 ∧ p.2.length < 2 ^ 40 ∧ (∀ j, j < p.1.length → jd (p.1.getD j Fx.nil)) ∧ ∀ j, j < p.2.length → vX (p.2.getD j Ch.nil)
def xf : Ctr := ctrP true (fun p : List Fx × List Ch => [envA p.1 p.2]) envP (fun p r => r = errE p.1 p.2) (fun _ (r : Int) => (.int .i64 r, []))
noncomputable def GE5 : Nat → Option Ctr := fun f => if f = 28 then some (ze1) else if f = 29 then some (ze7) else if f = 30 then some (ze8) else if f = 32 then some (zei) else none
theorem zfx : ∀ g c, GE5 g = some c → zd Tryz.prog g c := okIf zd0 (okIf zdv (okIf zct (okIf zd5 (zp))))
theorem Yq : zd Tryz.prog 11 xf := by
 refine ze (fn := Tryz.f11) (c := Tryz.f11.body.getD .skip) rfl rfl rfl fun p hp O w0 Q hq => ?_
 obtain ⟨f, c⟩ := p
 obtain ⟨h1, h2, h3, h4⟩ := hp
 replace hq := hq _ rfl
 simp only at hq h1 h2 h3 h4
 refine zb.run hmix zfx [] 400 (T := .ite (bif decide ((1000 : Int) < f.length) then true else decide ((1000 : Int) < c.length)) (.leaf (.ret [.int .i64 4] [.box [.sl f.length 3 (fxG f), .sl c.length 4 (chG c)]])) (.ex (fun (x : List Fx) => eqL [AV.sl f.length 3 (fxG f), AV.fn 25 [] []] [AV.sl x.length 3 (fxG x), AV.fn 25 [] []] ∧ x.length < 1099511627776 ∧ ∀ (j : Nat), j < x.length → jd (x.getD j Fx.nil)) fun n => .all (fun (r : Bool) => r = List.any n fun (x : Fx) => !okF x) fun n => .ex (fun (x : List Ch) => n = false → eqL [AV.sl c.length 4 (chG c), AV.fn 27 [] []] [AV.sl x.length 4 (chG x), AV.fn 27 [] []] ∧ x.length < 1099511627776 ∧ ∀ (j : Nat), j < x.length → vX (x.getD j Ch.nil)) fun n_1 => .all (fun (x : Bool) => n = false → x = List.any n_1 fun (x : Ch) => !okC x) fun n_2 => .ex (fun (x : List Fx) => (bif n then true else n_2) = false → eqL [AV.sl f.length 3 (fxG f), AV.fn 31 [] []] [AV.sl x.length 3 (fxG x), AV.fn 31 [] []] ∧ x.length < 1099511627776) fun n_3 => .all (fun (x : Bool) => (bif n then true else n_2) = false → x = ordB cmpF Fx.nil n_3) fun n_4 => .ex (fun (x : List Ch) => (bif bif n then true else n_2 then true else !n_4) = false → eqL [AV.sl c.length 4 (chG c), AV.fn 33 [] []] [AV.sl x.length 4 (chG x), AV.fn 33 [] []] ∧ x.length < 1099511627776) fun n_5 => .all (fun (x : Bool) => (bif bif n then true else n_2 then true else !n_4) = false → x = ordB cmpC Ch.nil n_5) fun n_6 => .ite (bif bif bif n then true else n_2 then true else !n_4 then true else !n_6) (.leaf (.ret [.int .i64 8] [.box [.sl f.length 3 (fxG f), .sl c.length 4 (chG c)]])) (.leaf (.ret [.int .i64 0] [.box [.sl f.length 3 (fxG f), .sl c.length 4 (chG c)]])))) (by kernel_rfl) ?_
 simp only [Tree.holds, zc]
 refine ⟨fun h => ?_, fun h => ?_⟩
 ·have h : 1000 < f.length ∨ 1000 < c.length := by
   rw [Bool.cond_eq_ite] at h
   split at h
   ·rename_i h1; left; have := of_decide_eq_true h1; omega
   ·right; have := of_decide_eq_true h; omega
  have : errE f c = 4 := if_pos h
  rw [this] at hq; exact RetR.scal hq rfl (by simp [resV])
 ·have h : ¬ (1000 < f.length ∨ 1000 < c.length) := by
   rw [Bool.cond_eq_ite] at h
   split at h
   ·cases h
   ·rename_i h1
    have h2 := of_decide_eq_false h
    rintro (h3 | h3)
    ·exact h1 (decide_eq_true (by omega))
    ·omega
  have he : errE f c = if (f.all okF && c.all okC && ordB cmpF Fx.nil f && ordB cmpC Ch.nil c) = true then 0 else 8 := if_neg h
  have a1 : (f.any fun x => !okF x) = !f.all okF := by rw [List.not_all_eq_any_not]
  have a2 : (c.any fun x => !okC x) = !c.all okC := by rw [List.not_all_eq_any_not]
  refine ⟨f, ⟨by simp [za], h1, h3⟩, ⟨_, rfl⟩, ?_⟩
  rintro _ rfl
  refine ⟨c, fun _ => ⟨by simp [za], h2, h4⟩, ⟨_, fun _ => rfl⟩, ?_⟩
  intro b1 g1
  refine ⟨f, fun _ => ⟨by simp [za], h1⟩, ⟨_, fun _ => rfl⟩, ?_⟩
  intro b2 g2
  refine ⟨c, fun _ => ⟨by simp [za], h2⟩, ⟨_, fun _ => rfl⟩, ?_⟩
  intro b3 g3
  rw [a1] at g1 g2 g3 ⊢
  rw [a2] at g1
  clear a1 a2
  generalize f.all okF = p1 at *
  generalize c.all okC = p2 at *
  generalize ordB cmpF Fx.nil f = p3 at *
  generalize ordB cmpC Ch.nil c = p4 at *
  have key : (bif bif bif !p1 then true else b1 then true else !b2 then true else !b3) = !(p1 && p2 && p3 && p4) := by
   cases p1 with
   | false => rfl
   | true =>
    have g1 := g1 rfl
    subst g1
    cases p2 with
    | false => rfl
    | true =>
     have g2 := g2 rfl
     subst g2
     cases b2 with
     | false => rfl
     | true => have g3 := g3 rfl; subst g3; rfl
  rw [key]
  clear key g1 g2 g3
  generalize (p1 && p2 && p3 && p4) = q at *
  refine ⟨fun h => ?_, fun h => ?_⟩
  ·cases q with
   | true => cases h
   | false => rw [he, if_neg (by decide)] at hq; exact RetR.scal hq rfl (by simp [resV])
  ·cases q with
   | false => cases h
   | true => rw [he, if_pos rfl] at hq; exact RetR.scal hq rfl (by simp [resV])
end Go.Proofs.Tryz
end

/- What is known: the reference's checks. -/
section
set_option maxRecDepth 100000
open Go Go.Sx Go.Proofs Go.Nov
namespace Go.Proofs.Tryz
attribute [local simp] eqKV eqA eqA0 eqH eqB eqL eqL0
noncomputable def K9 : List Go.Sx.Item := [.code (Tryz.f9.body.getD .skip)]
def SSE (i : Nat) : KV := [(2, .ptr 0 0), (3, .ptr 1 0), (5, .int .i64 (i : Int)), (6, .undef)]
def SSE2 (i : Nat) : KV := [(2, .ptr 0 0), (3, .ptr 1 0), (5, .undef), (6, .int .i64 (i : Int))]
def HSE (f f2 : List Fx) (c c2 : List Ch) : Heap := [.box [fxS f, chS c], .box [fxS f2, chS c2]]
def V8 : Ctr := ctrP true (fun p : (List Fx × List Ch) × (List Fx × List Ch) => [envA p.1.1 p.1.2, envA p.2.1 p.2.2]) (fun p => p.1.1.length < 2 ^ 40 ∧ p.1.2.length < 2 ^ 40) (fun p r => (r = true ↔ p.1 = p.2)) (fun _ (r : Bool) => (.bool r, []))
theorem Wz {O : Nat → Prop} {w0 : World} {Q : AV × Heap → Prop} {Hs : Nat → KV → Heap → Prop} (f f2 : List Fx) (c c2 : List Ch) (h2 : c.length < 2 ^ 40) (hf : f = f2) (hl : c.length = c2.length) (hq : ∀ (r : Bool), (r = true ↔ (f, c) = (f2, c2)) → Q (.bool r, [])) (kv : KV) (h : Heap) (hle : LeK 0 Tryz.f9.ntmps kv h (SSE2 0) (HSE f f2 c c2)) :
  zb Tryz.prog Tryz.f9 O 0 w0 [] Hs (RetR V8 0 Q) (.code (.loop (lps (inside K9 0) 0).1) :: (lps (inside K9 0) 0).2) (mk Tryz.f9.ntmps kv h) := by
 refine zb.loop (ι := {i : Nat // i ≤ c.length ∧ ∀ j, j < i → c.getD j Ch.nil = c2.getD j Ch.nil}) (fun i => SSE2 i.1) (fun _ => HSE f f2 c c2) (fun i => c.length - i.1) ⟨0, Nat.zero_le _, fun j hj => by omega⟩ 0 hle ?_ (by kernel_rfl)
 rintro ⟨i, hil, hib⟩
 refine zb.run hmix zq [2, 3, 5, 6] 400 (T := .ite (decide ((↑i : Int) < c.length)) (.side ((0 : Int) ≤ i ∧ (↑i : Int) < c.length) (.side ((0 : Int) ≤ i ∧ (↑i : Int) < c2.length) (.ite (!(decide (Ch.zL (List.getD c (Int.toNat (↑i : Int)) Ch.nil) = Ch.zL (List.getD c2 (Int.toNat (↑i : Int)) Ch.nil)) && (decide (Ch.name (List.getD c (Int.toNat (↑i : Int)) Ch.nil) = Ch.name (List.getD c2 (Int.toNat (↑i : Int)) Ch.nil)) && (decide (Ch.date (List.getD c (Int.toNat (↑i : Int)) Ch.nil) = Ch.date (List.getD c2 (Int.toNat (↑i : Int)) Ch.nil)) && (Ch.first (List.getD c (Int.toNat (↑i : Int)) Ch.nil) == Ch.first (List.getD c2 (Int.toNat (↑i : Int)) Ch.nil) && true))))) (.leaf (.ret [.bool false] [.box [.sl f.length 3 (fxG f), .sl c.length 4 (chG c)], .box [.sl f2.length 3 (fxG f2), .sl c2.length 4 (chG c2)]])) (.side (inR .i64 ((↑i : Int) + (1 : Int))) (.leaf (.back 0 [(2, .ptr 0 0), (3, .ptr 1 0), (5, .undef), (6, .int .i64 ((↑i : Int) + (1 : Int)))] [.box [.sl f.length 3 (fxG f), .sl c.length 4 (chG c)], .box [.sl f2.length 3 (fxG f2), .sl c2.length 4 (chG c2)]])))))) (.leaf (.ret [.bool true] [.box [.sl f.length 3 (fxG f), .sl c.length 4 (chG c)], .box [.sl f2.length 3 (fxG f2), .sl c2.length 4 (chG c2)]]))) (by kernel_rfl) ?_
 simp only [Tree.holds, zc, inR, lo, hi, Int.toNat_natCast]
 refine ⟨fun hlt => ?_, fun hge => ?_⟩
 ·have hlt : i < c.length := by have := of_decide_eq_true hlt; omega
  refine ⟨by omega, fun _ => ⟨by omega, fun _ => ⟨fun h => ?_, fun h => ⟨by omega, fun _ => ?_⟩⟩⟩⟩
  ·refine RetR.scal (hq false ⟨fun h => (by cases h), fun he => ?_⟩) rfl (by simp [resV])
   have hc : c = c2 := (Prod.mk.inj he).2
   have := Ch.eq_iff.2 (show c.getD i Ch.nil = c2.getD i Ch.nil by rw [hc])
   rw [this] at h; cases h
  ·rw [if_pos trivial]
   have he := Ch.eq_iff.1 (by simpa only [Bool.not_eq_false'] using h)
   refine ⟨⟨i + 1, hlt, fun j hj => ?_⟩, by show c.length - (i + 1) < c.length - i; omega, by simp [SSE2], by simp [HSE, fxS, chS, za], by kernel_rfl, Nat.zero_le _⟩
   rcases Nat.lt_or_ge j i with h1 | h1
   ·exact hib j h1
   ·have : j = i := by omega
    rw [this]; exact he
 ·have hge : i = c.length := by have := of_decide_eq_false hge; omega
  subst hge
  have hc := WB hl hib
  exact RetR.scal (hq true ⟨fun _ => by rw [hf, hc], fun _ => rfl⟩) rfl (by simp [resV])
theorem zbh : zd Tryz.prog 9 V8 := by
 refine ze (fn := Tryz.f9) (c := Tryz.f9.body.getD .skip) rfl rfl rfl fun p hp O w0 Q hq => ?_
 obtain ⟨⟨f, c⟩, ⟨f2, c2⟩⟩ := p
 obtain ⟨h1, h2⟩ := hp
 simp only at hq h1 h2
 refine zb.run hmix zq [2, 3, 5, 6] 400 (T := .ite (bif !decide ((↑f.length : Int) = f2.length) then true else !decide ((↑c.length : Int) = c2.length)) (.leaf (.ret [.bool false] [.box [.sl f.length 3 (fxG f), .sl c.length 4 (chG c)], .box [.sl f2.length 3 (fxG f2), .sl c2.length 4 (chG c2)]])) (.leaf (.loop (Prod.fst (lps K9 0)) (Prod.snd (lps K9 0)) [(2, .ptr 0 0), (3, .ptr 1 0), (5, .int .i64 0), (6, .undef)] [.box [.sl f.length 3 (fxG f), .sl c.length 4 (chG c)], .box [.sl f2.length 3 (fxG f2), .sl c2.length 4 (chG c2)]]))) (by kernel_rfl) ?_
 simp only [Tree.holds, zc]
 refine ⟨fun h => ?_, fun h => ?_⟩
 ·refine RetR.scal (hq false ⟨fun h => (by cases h), fun he => ?_⟩) rfl (by simp [resV])
  obtain ⟨e1, e2⟩ := Prod.mk.inj he
  subst e1; subst e2
  simp at h
 ·have hl : f.length = f2.length ∧ c.length = c2.length := by
   by_cases e1 : f.length = f2.length
   ·by_cases e2 : c.length = c2.length
    ·exact ⟨e1, e2⟩
    ·rw [decide_eq_false (show ¬ ((c.length : Nat) : Int) = c2.length by omega)] at h
     rw [decide_eq_true (show ((f.length : Nat) : Int) = f2.length by omega)] at h
     cases h
   ·rw [decide_eq_false (show ¬ ((f.length : Nat) : Int) = f2.length by omega)] at h
    cases h
  refine zb.loop (ι := {i : Nat // i ≤ f.length ∧ ∀ j, j < i → f.getD j Fx.nil = f2.getD j Fx.nil}) (fun i => SSE i.1) (fun _ => HSE f f2 c c2) (fun i => f.length - i.1) ⟨0, Nat.zero_le _, fun j hj => by omega⟩ 0 ?_ ?_ (by kernel_rfl)
  ·exact ⟨by simp [SSE], by simp [HSE, fxS, chS, za], by kernel_rfl, Nat.zero_le _⟩
  ·rintro ⟨i, hil, hib⟩
   refine zb.run hmix zq [2, 3, 5, 6] 400 (T := .ite (decide ((↑i : Int) < f.length)) (.side ((0 : Int) ≤ i ∧ (↑i : Int) < f.length) (.side ((0 : Int) ≤ i ∧ (↑i : Int) < f2.length) (.ite (!(decide (Fx.name (List.getD f (Int.toNat (↑i : Int)) Fx.nil) = Fx.name (List.getD f2 (Int.toNat (↑i : Int)) Fx.nil)) && (decide (Fx.date (List.getD f (Int.toNat (↑i : Int)) Fx.nil) = Fx.date (List.getD f2 (Int.toNat (↑i : Int)) Fx.nil)) && (decide (Fx.value (List.getD f (Int.toNat (↑i : Int)) Fx.nil) = Fx.value (List.getD f2 (Int.toNat (↑i : Int)) Fx.nil)) && true)))) (.leaf (.ret [.bool false] [.box [.sl f.length 3 (fxG f), .sl c.length 4 (chG c)], .box [.sl f2.length 3 (fxG f2), .sl c2.length 4 (chG c2)]])) (.side (inR .i64 ((↑i : Int) + (1 : Int))) (.leaf (.back 0 [(2, .ptr 0 0), (3, .ptr 1 0), (5, .int .i64 ((↑i : Int) + (1 : Int))), (6, .undef)] [.box [.sl f.length 3 (fxG f), .sl c.length 4 (chG c)], .box [.sl f2.length 3 (fxG f2), .sl c2.length 4 (chG c2)]])))))) (.leaf (.loop (Prod.fst (lps (inside K9 0) 0)) (Prod.snd (lps (inside K9 0) 0)) [(2, .ptr 0 0), (3, .ptr 1 0), (5, .int .i64 i), (6, .int .i64 0)] [.box [.sl f.length 3 (fxG f), .sl c.length 4 (chG c)], .box [.sl f2.length 3 (fxG f2), .sl c2.length 4 (chG c2)]]))) (by kernel_rfl) ?_
   simp only [Tree.holds, zc, inR, lo, hi, Int.toNat_natCast]
   refine ⟨fun hlt => ?_, fun hge => ?_⟩
   ·have hlt : i < f.length := by have := of_decide_eq_true hlt; omega
    refine ⟨by omega, fun _ => ⟨by omega, fun _ => ⟨fun h => ?_, fun h => ⟨by omega, fun _ => ?_⟩⟩⟩⟩
    ·refine RetR.scal (hq false ⟨fun h => (by cases h), fun he => ?_⟩) rfl (by simp [resV])
     have hc : f = f2 := (Prod.mk.inj he).1
     have := Fx.eq_iff.2 (show f.getD i Fx.nil = f2.getD i Fx.nil by rw [hc])
     rw [this] at h; cases h
    ·rw [if_pos trivial]
     have he := Fx.eq_iff.1 (by simpa only [Bool.not_eq_false'] using h)
     refine ⟨⟨i + 1, hlt, fun j hj => ?_⟩, by show f.length - (i + 1) < f.length - i; omega, by simp [SSE], by simp [HSE, fxS, chS, za], by kernel_rfl, Nat.zero_le _⟩
     rcases Nat.lt_or_ge j i with h1 | h1
     ·exact hib j h1
     ·have : j = i := by omega
      rw [this]; exact he
   ·have hge : i = f.length := by have := of_decide_eq_false hge; omega
    subst hge
    have hf := WB hl.1 hib
    exact Wz f f2 c c2 h2 hf hl.2 hq _ _ ⟨by simp [SSE2], by simp [HSE, fxS, chS, za], by kernel_rfl, Nat.zero_le _⟩
end Go.Proofs.Tryz
end

/- What is known: the reference's checks, finding, copies. -/
section
set_option maxRecDepth 100000
open Go Go.Sx Go.Proofs Go.Nov
namespace Go.Proofs.Tryz
attribute [local simp] eqKV eqA eqA0 eqH eqB eqL eqL0
noncomputable def K18 : List Go.Sx.Item := [.code (Tryz.f18.body.getD .skip)]
def Zj : Ctr := ctrP true (fun p : Fx × Fx => [p.1.av, p.2.av]) (fun _ => True) (fun p r => r = decide (cmpF p.1 p.2 < 0)) (fun _ (r : Bool) => (.bool r, []))
def ZA : Ctr := ctrP true (fun p : Ch × Ch => [p.1.av, p.2.av]) (fun _ => True) (fun p r => r = decide (cmpC p.1 p.2 < 0)) (fun _ (r : Bool) => (.bool r, []))
theorem Qh : zd Tryz.prog 41 Zj := by
 refine ze (fn := Tryz.f41) (c := Tryz.f41.body.getD .skip) rfl rfl rfl fun p hs O w0 Q hq => ?_
 obtain ⟨⟨a, d, v⟩, ⟨b, e, u⟩⟩ := p
 replace hq := hq _ rfl
 simp only at hq
 refine zb.run hmix zq [] 400 (T := .leaf (.ret [.bool (bif Op.bytesLess a b then true else bif decide (a = b) then decide (d < e) else false)] [.box [.str a, .int .i64 d, .str v], .box [.str b, .int .i64 e, .str u]])) (by kernel_rfl) ?_
 simp only [Tree.holds, zc]
 refine RetR.scal hq rfl ?_
 simp only [resV, cmpF]
 rw [uq (n := cmpI d e) (by simp only [Wc])]
theorem Zn : zd Tryz.prog 42 ZA := by
 refine ze (fn := Tryz.f42) (c := Tryz.f42.body.getD .skip) rfl rfl rfl fun p hs O w0 Q hq => ?_
 obtain ⟨⟨a, v, d, x⟩, ⟨b, u, e, y⟩⟩ := p
 replace hq := hq _ rfl
 simp only at hq
 refine zb.run hmix zq [] 400 (T := .ite (!decide (a = b)) (.leaf (.ret [.bool (Op.bytesLess a b)] [.box [.str a, .str v, .int .i64 d, .bool x], .box [.str b, .str u, .int .i64 e, .bool y]])) (.leaf (.ret [.bool (bif Op.bytesLess v u then true else bif decide (v = u) then decide (d < e) else false)] [.box [.str a, .str v, .int .i64 d, .bool x], .box [.str b, .str u, .int .i64 e, .bool y]]))) (by kernel_rfl) ?_
 simp only [Tree.holds, zc]
 refine ⟨fun h => ?_, fun h => ?_⟩
 ·refine RetR.scal hq rfl ?_
  have h : a ≠ b := by simpa using h
  simp only [resV, cmpC]
  rw [if_neg (fun h2 => h (xi.1 h2))]
  simp only [Xk]
  cases Op.bytesLess a b <;> rfl
 ·refine RetR.scal hq rfl ?_
  have h : a = b := by simpa using h
  simp only [resV, cmpC]
  rw [if_pos (xi.2 h), uq (n := cmpI d e) (by simp only [Wc])]
noncomputable def GV1 : Nat → Option Ctr := fun f => if f = 38 then some (yz) else if f = 39 then some (xo) else if f = 40 then some (kT) else if f = 41 then some (Zj) else if f = 42 then some (ZA) else none
theorem Kl : ∀ g c, GV1 g = some c → zd Tryz.prog g c := okIf uU (okIf JE (okIf kj (okIf Qh (okIf Zn (zp)))))
def HE (f : List Fx) (c : List Ch) : Heap := [.box [fxS f, chS c]]
def SCE1 (i : Nat) : KV := [(1, .ptr 0 0), (3, .int .i64 (i : Int)), (5, .undef), (34, .undef), (35, .undef), (36, .undef), (37, .undef), (40, .undef), (41, .undef), (42, .undef), (43, .undef), (46, .undef), (47, .undef), (48, .undef), (49, .undef), (50, .undef), (51, .undef), (52, .undef), (53, .undef), (54, .undef), (55, .undef), (56, .undef), (57, .undef), (58, .undef), (77, .undef), (78, .undef), (79, .undef), (80, .undef), (83, .undef), (84, .undef), (85, .undef), (86, .undef), (89, .undef), (90, .undef), (91, .undef), (92, .undef), (93, .undef), (94, .undef), (95, .undef), (96, .undef), (97, .undef), (98, .undef), (99, .undef), (100, .undef), (101, .undef)]
def SCE2 (i : Nat) : KV := [(1, .ptr 0 0), (3, .undef), (5, .int .i64 (i : Int)), (34, .undef), (35, .undef), (36, .undef), (37, .undef), (40, .undef), (41, .undef), (42, .undef), (43, .undef), (46, .undef), (47, .undef), (48, .undef), (49, .undef), (50, .undef), (51, .undef), (52, .undef), (53, .undef), (54, .undef), (55, .undef), (56, .undef), (57, .undef), (58, .undef), (77, .undef), (78, .undef), (79, .undef), (80, .undef), (83, .undef), (84, .undef), (85, .undef), (86, .undef), (89, .undef), (90, .undef), (91, .undef), (92, .undef), (93, .undef), (94, .undef), (95, .undef), (96, .undef), (97, .undef), (98, .undef), (99, .undef), (100, .undef), (101, .undef)]
theorem Qp {O : Nat → Prop} {w0 : World} {Q : AV × Heap → Prop} {Hs : Nat → KV → Heap → Prop} (f : List Fx) (c : List Ch) (hbig : ¬ (1000 < f.length ∨ 1000 < c.length)) (hs : ∀ j, j < c.length → vX (c.getD j Ch.nil)) (hf1 : f.all okF = true) (hf2 : ordB cmpF Fx.nil f = true)
  (hq : ∀ r, r = errE f c → Q (.int .i64 r, [])) (kv : KV) (h : Heap) (hle : LeK 0 Tryz.f18.ntmps kv h (SCE2 0) (HE f c)) :
  zb Tryz.prog Tryz.f18 O 0 w0 [] Hs (RetR xf 0 Q) (.code (.loop (lps (inside K18 0) 0).1) :: (lps (inside K18 0) 0).2) (mk Tryz.f18.ntmps kv h) := by
 refine zb.loop (ι := {i : Nat // i ≤ c.length ∧ (∀ j, j < i → okC (c.getD j Ch.nil) = true) ∧ ∀ j, j + 1 < i → cmpC (c.getD j Ch.nil) (c.getD (j + 1) Ch.nil) < 0}) (fun i => SCE2 i.1) (fun _ => HE f c) (fun i => c.length - i.1) ⟨0, Nat.zero_le _, fun j hj => by omega, fun j hj => by omega⟩ 0 hle ?_ (by kernel_rfl)
 rintro ⟨i, hil, hib, hio⟩
 refine zb.run hmix Kl [1, 3, 5, 34, 35, 36, 37, 40, 41, 42, 43, 46, 47, 48, 49, 50, 51, 52, 53, 54, 55, 56, 57, 58, 77, 78, 79, 80, 83, 84, 85, 86, 89, 90, 91, 92, 93, 94, 95, 96, 97, 98, 99, 100, 101] 400 (T := .ite (decide ((↑i : Int) < c.length)) (.side ((0 : Int) ≤ i ∧ (↑i : Int) < c.length) (.ex (fun (x : List UInt8) => eqL [AV.str (Ch.zL (List.getD c (Int.toNat (↑i : Int)) Ch.nil))] [AV.str x] ∧ x.length < 4611686018427387904) fun n => .all (fun (r : Bool) => r = zD n) fun n => .ex (fun (x : List UInt8) => (!n) = false → eqL [AV.str (Ch.name (List.getD c (Int.toNat (↑i : Int)) Ch.nil))] [AV.str x] ∧ x.length < 4611686018427387904) fun n_1 => .all (fun (x : Bool) => (!n) = false → x = zD n_1) fun n_2 => .ex (fun (x : Int) => (bif !n then true else !n_2) = false → eqL [AV.int .i64 (Ch.date (List.getD c (Int.toNat (↑i : Int)) Ch.nil))] [AV.int .i64 x] ∧ True) fun n_3 => .all (fun (x : Bool) => (bif !n then true else !n_2) = false → x = dayB n_3) fun n_4 => .side ((bif bif !n then true else !n_2 then true else !n_4) = false ∧ decide ((0 : Int) < i) = true → inR .i64 ((↑i : Int) - (1 : Int))) (.side ((bif bif !n then true else !n_2 then true else !n_4) = false ∧ decide ((0 : Int) < i) = true → (0 : Int) ≤ i - (1 : Int) ∧ (↑i : Int) - (1 : Int) < c.length) (.ex (fun (x : Ch × Ch) => (bif bif !n then true else !n_2 then true else !n_4) = false ∧ decide ((0 : Int) < i) = true → eqL [AV.agg [AV.str (Ch.zL (List.getD c (Int.toNat ((↑i : Int) - (1 : Int))) Ch.nil)), AV.str (Ch.name (List.getD c (Int.toNat ((↑i : Int) - (1 : Int))) Ch.nil)), AV.int .i64 (Ch.date (List.getD c (Int.toNat ((↑i : Int) - (1 : Int))) Ch.nil)), AV.bool (Ch.first (List.getD c (Int.toNat ((↑i : Int) - (1 : Int))) Ch.nil))], AV.agg [AV.str (Ch.zL (List.getD c (Int.toNat (↑i : Int)) Ch.nil)), AV.str (Ch.name (List.getD c (Int.toNat (↑i : Int)) Ch.nil)), AV.int .i64 (Ch.date (List.getD c (Int.toNat (↑i : Int)) Ch.nil)), AV.bool (Ch.first (List.getD c (Int.toNat (↑i : Int)) Ch.nil))]] [AV.agg [AV.str x.1.zL, AV.str x.1.name, AV.int .i64 x.1.date, AV.bool x.1.first], AV.agg [AV.str x.2.zL, AV.str x.2.name, AV.int .i64 x.2.date, AV.bool x.2.first]] ∧ True) fun n_5 => .all (fun (x : Bool) => (bif bif !n then true else !n_2 then true else !n_4) = false ∧ decide ((0 : Int) < i) = true → x = decide (cmpC n_5.1 n_5.2 < 0)) fun n_6 => .ite (bif bif bif !n then true else !n_2 then true else !n_4 then true else bif decide ((0 : Int) < i) then !n_6 else false) (.leaf (.ret [.int .i64 8] [.box [.sl f.length 3 (fxG f), .sl c.length 4 (chG c)], .box [.str (Ch.zL (List.getD c (Int.toNat (↑i : Int)) Ch.nil)), .str (Ch.name (List.getD c (Int.toNat (↑i : Int)) Ch.nil)), .int .i64 (Ch.date (List.getD c (Int.toNat (↑i : Int)) Ch.nil)), .bool (Ch.first (List.getD c (Int.toNat (↑i : Int)) Ch.nil))]])) (.side (inR .i64 ((↑i : Int) + (1 : Int))) (.leaf (.back 0 [(1, .ptr 0 0), (3, .undef), (5, .int .i64 ((↑i : Int) + (1 : Int))), (34, .undef), (35, .undef), (36, .undef), (37, .undef), (40, .undef), (41, .undef), (42, .undef), (43, .undef), (46, .undef), (47, .undef), (48, .undef), (49, .undef), (50, .undef), (51, .undef), (52, .undef), (53, .undef), (54, .undef), (55, .undef), (56, .undef), (57, .undef), (58, .undef), (77, .undef), (78, .undef), (79, .undef), (80, .undef), (83, .undef), (84, .undef), (85, .undef), (86, .undef), (89, .undef), (90, .undef), (91, .undef), (92, .undef), (93, .undef), (94, .undef), (95, .undef), (96, .undef), (97, .undef), (98, .undef), (99, .undef), (100, .undef), (101, .undef)] [.box [.sl f.length 3 (fxG f), .sl c.length 4 (chG c)], .box [.str (Ch.zL (List.getD c (Int.toNat (↑i : Int)) Ch.nil)), .str (Ch.name (List.getD c (Int.toNat (↑i : Int)) Ch.nil)), .int .i64 (Ch.date (List.getD c (Int.toNat (↑i : Int)) Ch.nil)), .bool (Ch.first (List.getD c (Int.toNat (↑i : Int)) Ch.nil))]]))))))) (.leaf (.ret [.int .i64 0] [.box [.sl f.length 3 (fxG f), .sl c.length 4 (chG c)]]))) (by kernel_rfl) ?_
 simp only [Tree.holds, zc, inR, lo, hi, Int.toNat_natCast]
 refine ⟨fun hlt => ?_, fun hge => ?_⟩
 ·have hlt : i < c.length := by have := of_decide_eq_true hlt; omega
  obtain ⟨hs1, hs2⟩ := hs i hlt
  have e : ((i : Int) - 1).toNat = i - 1 := by omega
  simp only [e]
  have hi0 : ∀ {b : Bool}, b = false ∧ decide (0 < (i : Int)) = true → 0 < i := fun h => by have := of_decide_eq_true h.2; omega
  refine ⟨by omega, fun _ => ⟨(c.getD i Ch.nil).zL, ⟨by simp, by omega⟩, ⟨_, rfl⟩, ?_⟩⟩
  rintro _ rfl
  refine ⟨(c.getD i Ch.nil).name, fun _ => ⟨by simp, by omega⟩, ⟨_, fun _ => rfl⟩, ?_⟩
  intro b1 g1
  refine ⟨(c.getD i Ch.nil).date, fun _ => ⟨by simp, trivial⟩, ⟨_, fun _ => rfl⟩, ?_⟩
  intro b2 g2
  refine ⟨fun h => by have := hi0 h; omega, fun _ => ⟨fun h => by have := hi0 h; omega, fun _ => ⟨(c.getD (i - 1) Ch.nil, c.getD i Ch.nil), fun _ => ⟨by simp, trivial⟩, ⟨_, fun _ => rfl⟩, ?_⟩⟩⟩
  intro b3 g3
  have hok : okC (c.getD i Ch.nil) = (zD (c.getD i Ch.nil).zL && zD (c.getD i Ch.nil).name && dayB (c.getD i Ch.nil).date) := rfl
  simp only at g3
  generalize zD (c.getD i Ch.nil).zL = p1 at *
  generalize zD (c.getD i Ch.nil).name = p2 at *
  generalize dayB (c.getD i Ch.nil).date = p3 at *
  have key : (bif bif !p1 then true else !b1 then true else !b2) = !okC (c.getD i Ch.nil) := by
   rw [hok]
   cases p1 with
   | false => rfl
   | true =>
    have g1 := g1 rfl
    subst g1
    cases b1 with
    | false => rfl
    | true => have g2 := g2 rfl; subst g2; rfl
  rw [key] at g3 ⊢
  refine ⟨fun h => ?_, fun h => ⟨by omega, fun _ => ?_⟩⟩
  ·refine RetR.scal (hq 8 (zam hbig ?_).symm) rfl (by simp [resV])
   cases hk : okC (c.getD i Ch.nil) with
   | false =>
    have := XD hlt hk
    rw [this]; simp
   | true =>
    rw [hk] at h g3
    simp only [Bool.not_true, cond_false] at h
    cases h0 : decide (0 < (i : Int)) with
    | false => rw [h0] at h; cases h
    | true =>
     rw [h0] at h
     have hi1 : 0 < i := by have := of_decide_eq_true h0; omega
     have g3 := g3 ⟨rfl, h0⟩
     rw [g3] at h
     simp only [cond_true, Bool.not_eq_true', decide_eq_false_iff_not] at h
     have e2 : i - 1 + 1 = i := by omega
     have := xO (l := c) (c := cmpC) (z := Ch.nil) (j := i - 1) (by omega) (by rw [e2]; exact h)
     rw [this]; simp
  ·have hk : okC (c.getD i Ch.nil) = true := by
    cases hk : okC (c.getD i Ch.nil) with
    | true => rfl
    | false => rw [hk] at h; cases h
   rw [hk] at h g3
   rw [if_pos trivial]
   refine ⟨⟨i + 1, hlt, fun j hj => ?_, fun j hj => ?_⟩, by show c.length - (i + 1) < c.length - i; omega, by simp [SCE2], by simp [HE, fxS, chS, za], by kernel_rfl, Nat.zero_le _⟩
   ·rcases Nat.lt_or_ge j i with h1 | h1
    ·exact hib j h1
    ·have : j = i := by omega
     rw [this]; exact hk
   ·rcases Nat.lt_or_ge (j + 1) i with h1 | h1
    ·exact hio j h1
    ·have e2 : j + 1 = i := by omega
     have e3 : j = i - 1 := by omega
     have h0 : decide (0 < (i : Int)) = true := decide_eq_true (by omega)
     have g3 := g3 ⟨rfl, h0⟩
     simp only [Bool.not_true, cond_false, h0, cond_true] at h
     rw [e2, e3]
     exact of_decide_eq_true (by rw [← g3]; simpa using h)
 ·have hge : i = c.length := by have := of_decide_eq_false hge; omega
  subst hge
  refine RetR.scal (hq 0 (j3.2 ⟨hbig, hf1, zbb hib, hf2, kF hio⟩).symm) rfl (by simp [resV])
theorem uZ : zd Tryz.prog 18 xf := by
 refine ze (fn := Tryz.f18) (c := Tryz.f18.body.getD .skip) rfl rfl rfl fun p hp O w0 Q hq => ?_
 obtain ⟨f, c⟩ := p
 obtain ⟨h1, h2, h3, h4⟩ := hp
 simp only at hq h1 h2 h3 h4
 refine zb.run hmix Kl [1, 3, 5, 34, 35, 36, 37, 40, 41, 42, 43, 46, 47, 48, 49, 50, 51, 52, 53, 54, 55, 56, 57, 58, 77, 78, 79, 80, 83, 84, 85, 86, 89, 90, 91, 92, 93, 94, 95, 96, 97, 98, 99, 100, 101] 400 (T := .ite (bif decide ((1000 : Int) < f.length) then true else decide ((1000 : Int) < c.length)) (.leaf (.ret [.int .i64 4] [.box [.sl f.length 3 (fxG f), .sl c.length 4 (chG c)]])) (.leaf (.loop (Prod.fst (lps K18 0)) (Prod.snd (lps K18 0)) [(1, .ptr 0 0), (3, .int .i64 0), (5, .undef), (34, .undef), (35, .undef), (36, .undef), (37, .undef), (40, .undef), (41, .undef), (42, .undef), (43, .undef), (46, .undef), (47, .undef), (48, .undef), (49, .undef), (50, .undef), (51, .undef), (52, .undef), (53, .undef), (54, .undef), (55, .undef), (56, .undef), (57, .undef), (58, .undef), (77, .undef), (78, .undef), (79, .undef), (80, .undef), (83, .undef), (84, .undef), (85, .undef), (86, .undef), (89, .undef), (90, .undef), (91, .undef), (92, .undef), (93, .undef), (94, .undef), (95, .undef), (96, .undef), (97, .undef), (98, .undef), (99, .undef), (100, .undef), (101, .undef)] [.box [.sl f.length 3 (fxG f), .sl c.length 4 (chG c)]]))) (by kernel_rfl) ?_
 simp only [Tree.holds, zc]
 refine ⟨fun h => ?_, fun h => ?_⟩
 ·have h : 1000 < f.length ∨ 1000 < c.length := by
   rw [Bool.cond_eq_ite] at h
   split at h
   ·rename_i h1; left; have := of_decide_eq_true h1; omega
   ·right; have := of_decide_eq_true h; omega
  exact RetR.scal (hq 4 (if_pos h).symm) rfl (by simp [resV])
 ·have hbig : ¬ (1000 < f.length ∨ 1000 < c.length) := by
   rw [Bool.cond_eq_ite] at h
   split at h
   ·cases h
   ·rename_i h1
    have h2 := of_decide_eq_false h
    rintro (h3 | h3)
    ·exact h1 (decide_eq_true (by omega))
    ·omega
  refine zb.loop (ι := {i : Nat // i ≤ f.length ∧ (∀ j, j < i → okF (f.getD j Fx.nil) = true) ∧ ∀ j, j + 1 < i → cmpF (f.getD j Fx.nil) (f.getD (j + 1) Fx.nil) < 0}) (fun i => SCE1 i.1) (fun _ => HE f c) (fun i => f.length - i.1) ⟨0, Nat.zero_le _, fun j hj => by omega, fun j hj => by omega⟩ 0 ?_ ?_ (by kernel_rfl)
  ·exact ⟨by simp [SCE1], by simp [HE, fxS, chS, za], by kernel_rfl, Nat.zero_le _⟩
  ·rintro ⟨i, hil, hib, hio⟩
   refine zb.run hmix Kl [1, 3, 5, 34, 35, 36, 37, 40, 41, 42, 43, 46, 47, 48, 49, 50, 51, 52, 53, 54, 55, 56, 57, 58, 77, 78, 79, 80, 83, 84, 85, 86, 89, 90, 91, 92, 93, 94, 95, 96, 97, 98, 99, 100, 101] 400 (T := .ite (decide ((↑i : Int) < f.length)) (.side ((0 : Int) ≤ i ∧ (↑i : Int) < f.length) (.ex (fun (x : List UInt8) => eqL [AV.str (Fx.name (List.getD f (Int.toNat (↑i : Int)) Fx.nil))] [AV.str x] ∧ x.length < 4611686018427387904) fun n => .all (fun (r : Bool) => r = zD n) fun n => .ex (fun (x : Int) => (!n) = false → eqL [AV.int .i64 (Fx.date (List.getD f (Int.toNat (↑i : Int)) Fx.nil))] [AV.int .i64 x] ∧ True) fun n_1 => .all (fun (x : Bool) => (!n) = false → x = dayB n_1) fun n_2 => .ex (fun (x : List UInt8) => (bif !n then true else !n_2) = false → eqL [AV.str (Fx.value (List.getD f (Int.toNat (↑i : Int)) Fx.nil))] [AV.str x] ∧ x.length < 1099511627776) fun n_3 => .all (fun (x : Int) => (bif !n then true else !n_2) = false → x = errR n_3) fun n_4 => .side ((bif bif !n then true else !n_2 then true else !decide (n_4 = 0)) = false ∧ decide ((0 : Int) < i) = true → inR .i64 ((↑i : Int) - (1 : Int))) (.side ((bif bif !n then true else !n_2 then true else !decide (n_4 = 0)) = false ∧ decide ((0 : Int) < i) = true → (0 : Int) ≤ i - (1 : Int) ∧ (↑i : Int) - (1 : Int) < f.length) (.ex (fun (x : Fx × Fx) => (bif bif !n then true else !n_2 then true else !decide (n_4 = 0)) = false ∧ decide ((0 : Int) < i) = true → eqL [AV.agg [AV.str (Fx.name (List.getD f (Int.toNat ((↑i : Int) - (1 : Int))) Fx.nil)), AV.int .i64 (Fx.date (List.getD f (Int.toNat ((↑i : Int) - (1 : Int))) Fx.nil)), AV.str (Fx.value (List.getD f (Int.toNat ((↑i : Int) - (1 : Int))) Fx.nil))], AV.agg [AV.str (Fx.name (List.getD f (Int.toNat (↑i : Int)) Fx.nil)), AV.int .i64 (Fx.date (List.getD f (Int.toNat (↑i : Int)) Fx.nil)), AV.str (Fx.value (List.getD f (Int.toNat (↑i : Int)) Fx.nil))]] [AV.agg [AV.str x.1.name, AV.int .i64 x.1.date, AV.str x.1.value], AV.agg [AV.str x.2.name, AV.int .i64 x.2.date, AV.str x.2.value]] ∧ True) fun n_5 => .all (fun (x : Bool) => (bif bif !n then true else !n_2 then true else !decide (n_4 = 0)) = false ∧ decide ((0 : Int) < i) = true → x = decide (cmpF n_5.1 n_5.2 < 0)) fun n_6 => .ite (bif bif bif !n then true else !n_2 then true else !decide (n_4 = 0) then true else bif decide ((0 : Int) < i) then !n_6 else false) (.leaf (.ret [.int .i64 8] [.box [.sl f.length 3 (fxG f), .sl c.length 4 (chG c)], .box [.str (Fx.name (List.getD f (Int.toNat (↑i : Int)) Fx.nil)), .int .i64 (Fx.date (List.getD f (Int.toNat (↑i : Int)) Fx.nil)), .str (Fx.value (List.getD f (Int.toNat (↑i : Int)) Fx.nil))]])) (.side (inR .i64 ((↑i : Int) + (1 : Int))) (.leaf (.back 0 [(1, .ptr 0 0), (3, .int .i64 ((↑i : Int) + (1 : Int))), (5, .undef), (34, .undef), (35, .undef), (36, .undef), (37, .undef), (40, .undef), (41, .undef), (42, .undef), (43, .undef), (46, .undef), (47, .undef), (48, .undef), (49, .undef), (50, .undef), (51, .undef), (52, .undef), (53, .undef), (54, .undef), (55, .undef), (56, .undef), (57, .undef), (58, .undef), (77, .undef), (78, .undef), (79, .undef), (80, .undef), (83, .undef), (84, .undef), (85, .undef), (86, .undef), (89, .undef), (90, .undef), (91, .undef), (92, .undef), (93, .undef), (94, .undef), (95, .undef), (96, .undef), (97, .undef), (98, .undef), (99, .undef), (100, .undef), (101, .undef)] [.box [.sl f.length 3 (fxG f), .sl c.length 4 (chG c)], .box [.str (Fx.name (List.getD f (Int.toNat (↑i : Int)) Fx.nil)), .int .i64 (Fx.date (List.getD f (Int.toNat (↑i : Int)) Fx.nil)), .str (Fx.value (List.getD f (Int.toNat (↑i : Int)) Fx.nil))]]))))))) (.leaf (.loop (Prod.fst (lps (inside K18 0) 0)) (Prod.snd (lps (inside K18 0) 0)) [(1, .ptr 0 0), (3, .int .i64 i), (5, .int .i64 0), (34, .undef), (35, .undef), (36, .undef), (37, .undef), (40, .undef), (41, .undef), (42, .undef), (43, .undef), (46, .undef), (47, .undef), (48, .undef), (49, .undef), (50, .undef), (51, .undef), (52, .undef), (53, .undef), (54, .undef), (55, .undef), (56, .undef), (57, .undef), (58, .undef), (77, .undef), (78, .undef), (79, .undef), (80, .undef), (83, .undef), (84, .undef), (85, .undef), (86, .undef), (89, .undef), (90, .undef), (91, .undef), (92, .undef), (93, .undef), (94, .undef), (95, .undef), (96, .undef), (97, .undef), (98, .undef), (99, .undef), (100, .undef), (101, .undef)] [.box [.sl f.length 3 (fxG f), .sl c.length 4 (chG c)]]))) (by kernel_rfl) ?_
   simp only [Tree.holds, zc, inR, lo, hi, Int.toNat_natCast]
   refine ⟨fun hlt => ?_, fun hge => ?_⟩
   ·have hlt : i < f.length := by have := of_decide_eq_true hlt; omega
    obtain ⟨hs1, hs2⟩ := h3 i hlt
    have e : ((i : Int) - 1).toNat = i - 1 := by omega
    simp only [e]
    have hi0 : ∀ {b : Bool}, b = false ∧ decide (0 < (i : Int)) = true → 0 < i := fun h => by have := of_decide_eq_true h.2; omega
    refine ⟨by omega, fun _ => ⟨(f.getD i Fx.nil).name, ⟨by simp, by omega⟩, ⟨_, rfl⟩, ?_⟩⟩
    rintro _ rfl
    refine ⟨(f.getD i Fx.nil).date, fun _ => ⟨by simp, trivial⟩, ⟨_, fun _ => rfl⟩, ?_⟩
    intro b1 g1
    refine ⟨(f.getD i Fx.nil).value, fun _ => ⟨by simp, by omega⟩, ⟨_, fun _ => rfl⟩, ?_⟩
    intro b2 g2
    refine ⟨fun h => by have := hi0 h; omega, fun _ => ⟨fun h => by have := hi0 h; omega, fun _ => ⟨(f.getD (i - 1) Fx.nil, f.getD i Fx.nil), fun _ => ⟨by simp, trivial⟩, ⟨_, fun _ => rfl⟩, ?_⟩⟩⟩
    intro b3 g3
    have hok : okF (f.getD i Fx.nil) = (zD (f.getD i Fx.nil).name && dayB (f.getD i Fx.nil).date && decide (errR (f.getD i Fx.nil).value = 0)) := rfl
    simp only at g3
    generalize zD (f.getD i Fx.nil).name = p1 at *
    generalize dayB (f.getD i Fx.nil).date = p2 at *
    generalize errR (f.getD i Fx.nil).value = p3 at *
    have key : (bif bif !p1 then true else !b1 then true else !decide (b2 = 0)) = !okF (f.getD i Fx.nil) := by
     rw [hok]
     cases p1 with
     | false => rfl
     | true =>
      have g1 := g1 rfl
      subst g1
      cases b1 with
      | false => rfl
      | true => have g2 := g2 rfl; subst g2; rfl
    rw [key] at g3 ⊢
    refine ⟨fun h => ?_, fun h => ⟨by omega, fun _ => ?_⟩⟩
    ·refine RetR.scal (hq 8 (zam hbig ?_).symm) rfl (by simp [resV])
     cases hk : okF (f.getD i Fx.nil) with
     | false =>
      have := XD hlt hk
      rw [this]; simp
     | true =>
      rw [hk] at h g3
      simp only [Bool.not_true, cond_false] at h
      cases h0 : decide (0 < (i : Int)) with
      | false => rw [h0] at h; cases h
      | true =>
       rw [h0] at h
       have hi1 : 0 < i := by have := of_decide_eq_true h0; omega
       have g3 := g3 ⟨rfl, h0⟩
       rw [g3] at h
       simp only [cond_true, Bool.not_eq_true', decide_eq_false_iff_not] at h
       have e2 : i - 1 + 1 = i := by omega
       have := xO (l := f) (c := cmpF) (z := Fx.nil) (j := i - 1) (by omega) (by rw [e2]; exact h)
       rw [this]; simp
    ·have hk : okF (f.getD i Fx.nil) = true := by
      cases hk : okF (f.getD i Fx.nil) with
      | true => rfl
      | false => rw [hk] at h; cases h
     rw [hk] at h g3
     rw [if_pos trivial]
     refine ⟨⟨i + 1, hlt, fun j hj => ?_, fun j hj => ?_⟩, by show f.length - (i + 1) < f.length - i; omega, by simp [SCE1], by simp [HE, fxS, chS, za], by kernel_rfl, Nat.zero_le _⟩
     ·rcases Nat.lt_or_ge j i with h1 | h1
      ·exact hib j h1
      ·have : j = i := by omega
       rw [this]; exact hk
     ·rcases Nat.lt_or_ge (j + 1) i with h1 | h1
      ·exact hio j h1
      ·have e2 : j + 1 = i := by omega
       have e3 : j = i - 1 := by omega
       have h0 : decide (0 < (i : Int)) = true := decide_eq_true (by omega)
       have g3 := g3 ⟨rfl, h0⟩
       simp only [Bool.not_true, cond_false, h0, cond_true] at h
       rw [e2, e3]
       exact of_decide_eq_true (by rw [← g3]; simpa using h)
   ·have hge : i = f.length := by have := of_decide_eq_false hge; omega
    subst hge
    exact Qp f c hbig h4 (zbb hib) (kF hio) hq _ _ ⟨by simp [SCE2], by simp [HE, fxS, chS, za], by kernel_rfl, Nat.zero_le _⟩
end Go.Proofs.Tryz
end

/- Lists of what is known, as slices: pushed, set, put in between. -/
section
namespace Go.Nov
open Go.Sx
theorem Fx.Q3 (x : Fx) {j o : Nat} (hj : j < 1) (ho : o < 3) : zg (zf 3 [.str x.name, .int .i64 x.date, .str x.value]) 0 j o = x.cell o := by
 have : j = 0 := by omega
 subst this
 rcases o with _ | _ | _ | o
 ·rfl
 ·rfl
 ·rfl
 ·omega
theorem Ch.Q3 (x : Ch) {j o : Nat} (hj : j < 1) (ho : o < 4) : zg (zf 4 [.str x.zL, .str x.name, .int .i64 x.date, .bool x.first]) 0 j o = x.cell o := by
 have : j = 0 := by omega
 subst this
 rcases o with _ | _ | _ | _ | o
 ·rfl
 ·rfl
 ·rfl
 ·rfl
 ·omega
theorem YF {α : Type} (l : List α) (x z : α) (j : Nat) : (l ++ [x]).getD j z = if j < l.length then l.getD j z else if j = l.length then x else z := by
 simp only [List.getD, List.getElem?_append]
 split
 ·rfl
 ·rename_i h
  split
  ·rename_i h2; subst h2; simp
  ·rename_i h2
   have : j - l.length ≠ 0 := by omega
   obtain ⟨k, hk⟩ := Nat.exists_eq_succ_of_ne_zero this
   rw [hk]; simp
theorem jy {l : List Fx} {x : Fx} {g : Nat → Nat → AV} (hg : eqG l.length 3 g (fxG l)) : eqG (l.length + 1) 3 (appG l.length g (zg (zf 3 [.str x.name, .int .i64 x.date, .str x.value]) 0)) (fxG (l ++ [x])) := by
 intro j o hj ho
 simp only [appG, fxG, YF]
 split
 ·rename_i h; exact hg j o h ho
 ·rename_i h
  have : j = l.length := by omega
  subst this
  rw [if_pos rfl, Fx.Q3 x (by omega) ho]
theorem vB (n sz : Nat) (g g' : Nat → Nat → AV) : eqG (0 + n) sz (appG 0 g g') g' := by
 intro j o _ _
 simp [appG]
theorem jH (n sz : Nat) (g : Nat → Nat → AV) : eqG n sz (zg g 0) g := by
 intro j o _ _
 simp [zg]
theorem Jo (l : List Fx) (j o : Nat) (ho : o < 3) : zR (fxG l j o) = true := by
 simp only [fxG]
 rcases o with _ | _ | _ | o
 ·rfl
 ·rfl
 ·rfl
 ·omega
theorem J1 (l : List Ch) (j o : Nat) (ho : o < 4) : zR (chG l j o) = true := by
 simp only [chG]
 rcases o with _ | _ | _ | _ | o
 ·rfl
 ·rfl
 ·rfl
 ·rfl
 ·omega
theorem YP (o x : Fx) : (bif !decide (o.name = x.name) then true else !decide (o.date = x.date)) = !decide (cmpF o x = 0) := by
 have : decide (cmpF o x = 0) = (decide (o.name = x.name) && decide (o.date = x.date)) := by
  rw [← Bool.decide_and]; exact decide_eq_decide.2 vP
 rw [this]
 cases decide (o.name = x.name) <;> cases decide (o.date = x.date) <;> rfl
theorem zc2 {α : Type} {c : α → α → Int} {x z : α} {put : Bool} {f : List α} {i : Nat} (hi : i < f.length) : refL c x put (f.drop i) = (if put = false ∧ ¬ c (f.getD i z) x < 0 then [x] else []) ++ ((if c (f.getD i z) x = 0 then [] else [f.getD i z]) ++ refL c x (put || !decide (c (f.getD i z) x < 0)) (f.drop (i + 1))) := by
 have hd : f.drop i = f.getD i z :: f.drop (i + 1) := by
  rw [List.drop_eq_getElem_cons hi]; simp [List.getD, hi]
 rw [hd]
 simp only [refL]
end Go.Nov
end

/- What is known: the reference's copies and places. -/
section
set_option maxRecDepth 100000
open Go Go.Sx Go.Proofs Go.Nov
namespace Go.Proofs.Tryz
attribute [local simp] eqKV eqA eqA0 eqH eqB eqL eqL0
noncomputable def K20 : List Go.Sx.Item := [.code (Tryz.f20.body.getD .skip)]
def ze4 : Ctr := ctrP true (fun p : List Fx × List Ch => [envA p.1 p.2]) (fun p => p.1.length < 2 ^ 40 ∧ p.2.length < 2 ^ 40) (fun p (_ : Unit) => True) (fun p (_ : Unit) => (.agg [.osl 0 3 0 p.1.length, .osl 1 4 0 p.2.length], [.arr p.1.length 3 (fxG p.1), .arr p.2.length 4 (chG p.2)]))
theorem uQ {n : Nat} {g : Nat → Nat → AV} {l : List Fx} (h : eqG n 3 g (fxG l)) : newB (.arr n 3 g) := fun j o hj ho => by rw [h j o hj ho]; exact Jo l j o ho
theorem yo {n : Nat} {g : Nat → Nat → AV} {l : List Ch} (h : eqG n 4 g (chG l)) : newB (.arr n 4 g) := fun j o hj ho => by rw [h j o hj ho]; exact J1 l j o ho
theorem zdj : zd Tryz.prog 6 ze4 := by
 refine ze (fn := Tryz.f6) (c := Tryz.f6.body.getD .skip) rfl rfl rfl fun p hp O w0 Q hq => ?_
 obtain ⟨f, c⟩ := p
 obtain ⟨h1, h2⟩ := hp
 replace hq := hq () trivial
 simp only at hq h1 h2
 refine zb.run hmix zq [] 400 (T := .all (fun (x : Bool) => True) fun n => .ite n (.all (fun (x : Bool) => True) fun n => .ite n (.side (0 = 0 ∧ 0 ≤ 0 ∧ (0 + f.length) * 40 ≤ 140737488355328) (.side (0 = 0 ∧ 0 ≤ 0 ∧ (0 + c.length) * 48 ≤ 140737488355328) (.leaf (.ret [.agg [.osl 2 3 0 (0 + f.length), .osl 3 4 0 (0 + c.length)]] [.box [.sl f.length 3 (fxG f), .sl c.length 4 (chG c)], .box [.osl 2 3 0 (0 + f.length), .osl 3 4 0 (0 + c.length)], .arr (0 + f.length) 3 (appG 0 (zf 3 []) (fxG f)), .arr (0 + c.length) 4 (appG 0 (zf 4 []) (chG c))])))) (.side (0 = 0 ∧ 0 ≤ 0 ∧ (0 + f.length) * 40 ≤ 140737488355328) (.side (0 = 0 ∧ 0 ≤ 0 ∧ (0 + c.length) * 48 ≤ 140737488355328) (.leaf (.ret [.agg [.osl 2 3 0 (0 + f.length), .osl 3 4 0 (0 + c.length)]] [.box [.sl f.length 3 (fxG f), .sl c.length 4 (chG c)], .box [.osl 2 3 0 (0 + f.length), .osl 3 4 0 (0 + c.length)], .arr (0 + f.length) 3 (appG 0 (zf 3 []) (fxG f)), .arr (0 + c.length) 4 (appG 0 (zf 4 []) (chG c))]))))) (.side (0 = 0 ∧ 0 ≤ 0 ∧ (0 + f.length) * 40 ≤ 140737488355328) (.side (0 = 0 ∧ 0 ≤ 0 ∧ (0 + c.length) * 48 ≤ 140737488355328) (.leaf (.ret [.agg [.osl 3 3 0 (0 + f.length), .osl 2 4 0 (0 + c.length)]] [.box [.sl f.length 3 (fxG f), .sl c.length 4 (chG c)], .box [.osl 3 3 0 (0 + f.length), .osl 2 4 0 (0 + c.length)], .arr (0 + c.length) 4 (appG 0 (zf 4 []) (chG c)), .arr (0 + f.length) 3 (appG 0 (zf 3 []) (fxG f))]))))) (by kernel_rfl) ?_
 simp only [Tree.holds, zc]
 have e1 : eqG (0 + f.length) 3 (appG 0 (zf 3 []) (fxG f)) (fxG f) := vB _ _ _ _
 have e2 : eqG (0 + c.length) 4 (appG 0 (zf 4 []) (chG c)) (chG c) := vB _ _ _ _
 refine ⟨⟨true, trivial⟩, fun _ _ => ⟨fun _ => ⟨⟨true, trivial⟩, fun _ _ => ⟨fun _ => ?_, fun _ => ?_⟩⟩, fun _ => ?_⟩⟩
 ·refine ⟨⟨trivial, Nat.le_refl _, by omega⟩, fun _ => ⟨⟨trivial, Nat.le_refl _, by omega⟩, fun _ => ?_⟩⟩
  refine RetR.outs [2, 3] rfl rfl hq (fun _ => ⟨?_, ?_⟩) ?_ ?_ rfl
  ·simp [resV, new2, new1, new0, zA]
  ·simp only [List.mem_cons, List.not_mem_nil, or_false, forall_eq_or_imp, forall_eq]
   exact ⟨uQ e1, yo e2⟩
  ·simp [resV, exp2, exp1, exp0, zA, eqA2, eqL1]
  ·exact ⟨⟨by omega, rfl, e1⟩, ⟨by omega, rfl, e2⟩, trivial⟩
 ·refine ⟨⟨trivial, Nat.le_refl _, by omega⟩, fun _ => ⟨⟨trivial, Nat.le_refl _, by omega⟩, fun _ => ?_⟩⟩
  refine RetR.outs [2, 3] rfl rfl hq (fun _ => ⟨?_, ?_⟩) ?_ ?_ rfl
  ·simp [resV, new2, new1, new0, zA]
  ·simp only [List.mem_cons, List.not_mem_nil, or_false, forall_eq_or_imp, forall_eq]
   exact ⟨uQ e1, yo e2⟩
  ·simp [resV, exp2, exp1, exp0, zA, eqA2, eqL1]
  ·exact ⟨⟨by omega, rfl, e1⟩, ⟨by omega, rfl, e2⟩, trivial⟩
 ·refine ⟨⟨trivial, Nat.le_refl _, by omega⟩, fun _ => ⟨⟨trivial, Nat.le_refl _, by omega⟩, fun _ => ?_⟩⟩
  refine RetR.outs [3, 2] rfl rfl hq (fun _ => ⟨?_, ?_⟩) ?_ ?_ rfl
  ·simp [resV, new2, new1, new0, zA]
  ·simp only [List.mem_cons, List.not_mem_nil, or_false, forall_eq_or_imp, forall_eq]
   exact ⟨uQ e1, yo e2⟩
  ·simp [resV, exp2, exp1, exp0, zA, eqA2, eqL1]
  ·exact ⟨⟨by omega, rfl, e1⟩, ⟨by omega, rfl, e2⟩, trivial⟩
noncomputable def GV2 : Nat → Option Ctr := fun f => if f = 18 then some (xf) else if f = 38 then some (yz) else if f = 39 then some (xo) else if f = 40 then some (kT) else if f = 41 then some (Zj) else if f = 42 then some (ZA) else none
theorem Ui : ∀ g c, GV2 g = some c → zd Tryz.prog g c := okIf uZ (okIf uU (okIf JE (okIf kj (okIf Qh (okIf Zn (zp))))))
def SPu (put : Bool) (i : Nat) : KV := [(2, .ptr 0 0), (3, .ptr 1 0), (4, .ptr 2 0), (6, .ptr 4 0), (7, .bool put), (8, .int .i64 (i : Int)), (55, .undef), (56, .undef), (57, .undef), (58, .undef), (72, .undef), (73, .undef), (74, .undef), (75, .undef), (76, .undef)]
def HPu (f : List Fx) (c : List Ch) (x : Fx) (l : List Fx) : Heap := [.box [fxS f, chS c], .box [.str x.name, .int .i64 x.date, .str x.value], .box [.nils, .nils], .arr c.length 4 (chG c), .box [.osl 5 3 0 l.length, .osl 3 4 0 c.length], .arr l.length 3 (fxG l)]
def HPu0 (f : List Fx) (c : List Ch) (x : Fx) : Heap := [.box [fxS f, chS c], .box [.str x.name, .int .i64 x.date, .str x.value], .box [.nils, .nils], .arr (0 + c.length) 4 (appG 0 (zf 4 []) (chG c)), .box [.nils, .osl 3 4 0 (0 + c.length)]]
def HPu1 (f : List Fx) (c : List Ch) (x : Fx) : Heap := [.box [fxS f, chS c], .box [.str x.name, .int .i64 x.date, .str x.value], .box [.nils, .nils], .arr (0 + c.length) 4 (appG 0 (zf 4 []) (chG c)), .box [.osl 5 3 0 0, .osl 3 4 0 (0 + c.length)]]
def XW : Ctr := ctrP true (fun p : (List Fx × List Ch) × Fx => [envA p.1.1 p.1.2, p.2.av]) (fun p => envP p.1 ∧ jd p.2) (fun p r => r = putF p.1.1 p.1.2 p.2) (fun _ (r : (List Fx × List Ch) × Int) => (.tup [envA r.1.1 r.1.2, .int .i64 r.2], []))
theorem Ya {O : Nat → Prop} {w0 : World} {Q : AV × Heap → Prop} {Hs : Nat → KV → Heap → Prop} (f : List Fx) (c : List Ch) (x : Fx) (hf : f.length ≤ 1000) (hc : c.length ≤ 1000)
  (hq : Q (.tup [envA (if 1000 < (refL cmpF x false f).length then (([], []), 22) else ((refL cmpF x false f, c), 0) : (List Fx × List Ch) × Int).1.1 (if 1000 < (refL cmpF x false f).length then (([], []), 22) else ((refL cmpF x false f, c), 0) : (List Fx × List Ch) × Int).1.2, .int .i64 (if 1000 < (refL cmpF x false f).length then (([], []), 22) else ((refL cmpF x false f, c), 0) : (List Fx × List Ch) × Int).2], [])) :
  zb Tryz.prog Tryz.f20 O 0 w0 [] Hs (RetR XW 0 Q) (.code (.loop (lps K20 0).1) :: (lps K20 0).2) (mk Tryz.f20.ntmps (SPu false 0) (HPu0 f c x)) := by
 refine zb.up [(3, fun _ _ => .undef)] (SPu false 0) (HPu1 f c x) (by simp [SPu, upKV, upA2, upA1, upA0]) (by simp [HPu0, HPu1, upH, upB, upL1, upA1, upA0, fxS, chS]) (by kernel_rfl) (by kernel_rfl) ?_
 refine zb.loop (ι := {p : Nat × Bool × List Fx // p.1 ≤ f.length ∧ p.2.2 ++ refL cmpF x p.2.1 (f.drop p.1) = refL cmpF x false f ∧ p.2.2.length ≤ 2 * p.1}) (fun p => SPu p.1.2.1 p.1.1) (fun p => HPu f c x p.1.2.2) (fun p => f.length - p.1.1) ⟨(0, false, []), Nat.zero_le _, by simp, by simp⟩ 0 ?_ ?_ (by kernel_rfl)
 ·exact ⟨by simp [SPu], ⟨by simp [fxS, chS, za], by simp [fxS, chS, za], by simp, ⟨by omega, rfl, vB _ _ _ _⟩, by simp, ⟨rfl, rfl, fun j o hj _ => by omega⟩, trivial⟩, by kernel_rfl, Nat.zero_le _⟩
 ·rintro ⟨⟨i, put, l⟩, hil, hlr, hll⟩
  simp only at hil hlr hll
  refine zb.run hmix Ui [2, 3, 4, 6, 7, 8, 55, 56, 57, 58, 72, 73, 74, 75, 76] 400 (T := .ite (decide ((↑i : Int) < f.length)) (.side ((0 : Int) ≤ i ∧ (↑i : Int) < f.length) (.ex (fun (x_1 : Fx × Fx) => (!put) = true → eqL [AV.agg [AV.str (Fx.name (List.getD f (Int.toNat (↑i : Int)) Fx.nil)), AV.int .i64 (Fx.date (List.getD f (Int.toNat (↑i : Int)) Fx.nil)), AV.str (Fx.value (List.getD f (Int.toNat (↑i : Int)) Fx.nil))], AV.agg [AV.str x.name, AV.int .i64 x.date, AV.str x.value]] [AV.agg [AV.str x_1.1.name, AV.int .i64 x_1.1.date, AV.str x_1.1.value], AV.agg [AV.str x_1.2.name, AV.int .i64 x_1.2.date, AV.str x_1.2.value]] ∧ True) fun n => .all (fun (x : Bool) => (!put) = true → x = decide (cmpF n.1 n.2 < 0)) fun n => .ite (bif !put then !n else false) (.side (0 = 0 ∧ l.length ≤ l.length ∧ (l.length + 1) * 40 ≤ 140737488355328) (.ite (bif !decide (Fx.name (List.getD f (Int.toNat (↑i : Int)) Fx.nil) = Fx.name x) then true else !decide (Fx.date (List.getD f (Int.toNat (↑i : Int)) Fx.nil) = Fx.date x)) (.side (0 = 0 ∧ l.length + 1 ≤ l.length + 1 ∧ (l.length + 1 + 1) * 40 ≤ 140737488355328) (.side (inR .i64 ((↑i : Int) + (1 : Int))) (.leaf (.back 0 [(2, .ptr 0 0), (3, .ptr 1 0), (4, .ptr 2 0), (6, .ptr 4 0), (7, .bool true), (8, .int .i64 ((↑i : Int) + (1 : Int))), (55, .undef), (56, .undef), (57, .undef), (58, .undef), (72, .undef), (73, .undef), (74, .undef), (75, .undef), (76, .undef)] [.box [.sl f.length 3 (fxG f), .sl c.length 4 (chG c)], .box [.str x.name, .int .i64 x.date, .str x.value], .box [.nils, .nils], .arr c.length 4 (chG c), .box [.osl 5 3 0 (l.length + 1 + 1), .osl 3 4 0 c.length], .arr (l.length + 1 + 1) 3 (appG (l.length + 1) (appG l.length (fxG l) (zg (zf 3 [.str x.name, .int .i64 x.date, .str x.value]) 0)) (zg (zf 3 [.str (Fx.name (List.getD f (Int.toNat (↑i : Int)) Fx.nil)), .int .i64 (Fx.date (List.getD f (Int.toNat (↑i : Int)) Fx.nil)), .str (Fx.value (List.getD f (Int.toNat (↑i : Int)) Fx.nil))]) 0)), .box [.str (Fx.name (List.getD f (Int.toNat (↑i : Int)) Fx.nil)), .int .i64 (Fx.date (List.getD f (Int.toNat (↑i : Int)) Fx.nil)), .str (Fx.value (List.getD f (Int.toNat (↑i : Int)) Fx.nil))], .arr 1 3 (zf 3 [.str x.name, .int .i64 x.date, .str x.value]), .arr 1 3 (zf 3 [.str (Fx.name (List.getD f (Int.toNat (↑i : Int)) Fx.nil)), .int .i64 (Fx.date (List.getD f (Int.toNat (↑i : Int)) Fx.nil)), .str (Fx.value (List.getD f (Int.toNat (↑i : Int)) Fx.nil))])])))) (.side (inR .i64 ((↑i : Int) + (1 : Int))) (.leaf (.back 0 [(2, .ptr 0 0), (3, .ptr 1 0), (4, .ptr 2 0), (6, .ptr 4 0), (7, .bool true), (8, .int .i64 ((↑i : Int) + (1 : Int))), (55, .undef), (56, .undef), (57, .undef), (58, .undef), (72, .undef), (73, .undef), (74, .undef), (75, .undef), (76, .undef)] [.box [.sl f.length 3 (fxG f), .sl c.length 4 (chG c)], .box [.str x.name, .int .i64 x.date, .str x.value], .box [.nils, .nils], .arr c.length 4 (chG c), .box [.osl 5 3 0 (l.length + 1), .osl 3 4 0 c.length], .arr (l.length + 1) 3 (appG l.length (fxG l) (zg (zf 3 [.str x.name, .int .i64 x.date, .str x.value]) 0)), .box [.str (Fx.name (List.getD f (Int.toNat (↑i : Int)) Fx.nil)), .int .i64 (Fx.date (List.getD f (Int.toNat (↑i : Int)) Fx.nil)), .str (Fx.value (List.getD f (Int.toNat (↑i : Int)) Fx.nil))], .arr 1 3 (zf 3 [.str x.name, .int .i64 x.date, .str x.value])]))))) (.ite (bif !decide (Fx.name (List.getD f (Int.toNat (↑i : Int)) Fx.nil) = Fx.name x) then true else !decide (Fx.date (List.getD f (Int.toNat (↑i : Int)) Fx.nil) = Fx.date x)) (.side (0 = 0 ∧ l.length ≤ l.length ∧ (l.length + 1) * 40 ≤ 140737488355328) (.side (inR .i64 ((↑i : Int) + (1 : Int))) (.leaf (.back 0 [(2, .ptr 0 0), (3, .ptr 1 0), (4, .ptr 2 0), (6, .ptr 4 0), (7, .bool put), (8, .int .i64 ((↑i : Int) + (1 : Int))), (55, .undef), (56, .undef), (57, .undef), (58, .undef), (72, .undef), (73, .undef), (74, .undef), (75, .undef), (76, .undef)] [.box [.sl f.length 3 (fxG f), .sl c.length 4 (chG c)], .box [.str x.name, .int .i64 x.date, .str x.value], .box [.nils, .nils], .arr c.length 4 (chG c), .box [.osl 5 3 0 (l.length + 1), .osl 3 4 0 c.length], .arr (l.length + 1) 3 (appG l.length (fxG l) (zg (zf 3 [.str (Fx.name (List.getD f (Int.toNat (↑i : Int)) Fx.nil)), .int .i64 (Fx.date (List.getD f (Int.toNat (↑i : Int)) Fx.nil)), .str (Fx.value (List.getD f (Int.toNat (↑i : Int)) Fx.nil))]) 0)), .box [.str (Fx.name (List.getD f (Int.toNat (↑i : Int)) Fx.nil)), .int .i64 (Fx.date (List.getD f (Int.toNat (↑i : Int)) Fx.nil)), .str (Fx.value (List.getD f (Int.toNat (↑i : Int)) Fx.nil))], .arr 1 3 (zf 3 [.str (Fx.name (List.getD f (Int.toNat (↑i : Int)) Fx.nil)), .int .i64 (Fx.date (List.getD f (Int.toNat (↑i : Int)) Fx.nil)), .str (Fx.value (List.getD f (Int.toNat (↑i : Int)) Fx.nil))])])))) (.side (inR .i64 ((↑i : Int) + (1 : Int))) (.leaf (.back 0 [(2, .ptr 0 0), (3, .ptr 1 0), (4, .ptr 2 0), (6, .ptr 4 0), (7, .bool put), (8, .int .i64 ((↑i : Int) + (1 : Int))), (55, .undef), (56, .undef), (57, .undef), (58, .undef), (72, .undef), (73, .undef), (74, .undef), (75, .undef), (76, .undef)] [.box [.sl f.length 3 (fxG f), .sl c.length 4 (chG c)], .box [.str x.name, .int .i64 x.date, .str x.value], .box [.nils, .nils], .arr c.length 4 (chG c), .box [.osl 5 3 0 l.length, .osl 3 4 0 c.length], .arr l.length 3 (fxG l), .box [.str (Fx.name (List.getD f (Int.toNat (↑i : Int)) Fx.nil)), .int .i64 (Fx.date (List.getD f (Int.toNat (↑i : Int)) Fx.nil)), .str (Fx.value (List.getD f (Int.toNat (↑i : Int)) Fx.nil))]])))))) (.ite (!put) (.side (0 = 0 ∧ l.length ≤ l.length ∧ (l.length + 1) * 40 ≤ 140737488355328) (.ite (decide ((1000 : Int) < (↑(l.length + 1) : Int))) (.leaf (.ret [.agg [.nils, .nils], .int .i64 22] [.box [.sl f.length 3 (fxG f), .sl c.length 4 (chG c)], .box [.str x.name, .int .i64 x.date, .str x.value], .box [.nils, .nils], .arr c.length 4 (chG c), .box [.osl 5 3 0 (l.length + 1), .osl 3 4 0 c.length], .arr (l.length + 1) 3 (appG l.length (fxG l) (zg (zf 3 [.str x.name, .int .i64 x.date, .str x.value]) 0)), .arr 1 3 (zf 3 [.str x.name, .int .i64 x.date, .str x.value])])) (.leaf (.ret [.agg [.osl 5 3 0 (l.length + 1), .osl 3 4 0 c.length], .int .i64 0] [.box [.sl f.length 3 (fxG f), .sl c.length 4 (chG c)], .box [.str x.name, .int .i64 x.date, .str x.value], .box [.osl 5 3 0 (l.length + 1), .osl 3 4 0 c.length], .arr c.length 4 (chG c), .box [.osl 5 3 0 (l.length + 1), .osl 3 4 0 c.length], .arr (l.length + 1) 3 (appG l.length (fxG l) (zg (zf 3 [.str x.name, .int .i64 x.date, .str x.value]) 0)), .arr 1 3 (zf 3 [.str x.name, .int .i64 x.date, .str x.value])])))) (.ite (decide ((1000 : Int) < l.length)) (.leaf (.ret [.agg [.nils, .nils], .int .i64 22] [.box [.sl f.length 3 (fxG f), .sl c.length 4 (chG c)], .box [.str x.name, .int .i64 x.date, .str x.value], .box [.nils, .nils], .arr c.length 4 (chG c), .box [.osl 5 3 0 l.length, .osl 3 4 0 c.length], .arr l.length 3 (fxG l)])) (.leaf (.ret [.agg [.osl 5 3 0 l.length, .osl 3 4 0 c.length], .int .i64 0] [.box [.sl f.length 3 (fxG f), .sl c.length 4 (chG c)], .box [.str x.name, .int .i64 x.date, .str x.value], .box [.osl 5 3 0 l.length, .osl 3 4 0 c.length], .arr c.length 4 (chG c), .box [.osl 5 3 0 l.length, .osl 3 4 0 c.length], .arr l.length 3 (fxG l)]))))) (by kernel_rfl) ?_
  simp only [Tree.holds, zc, inR, lo, hi, Int.toNat_natCast, YP]
  refine ⟨fun hlt => ?_, fun hge => ?_⟩
  ·have hlt : i < f.length := by have := of_decide_eq_true hlt; omega
   rw [zc2 (z := Fx.nil) hlt] at hlr
   obtain ⟨o, ho⟩ : ∃ o, f.getD i Fx.nil = o := ⟨_, rfl⟩
   simp only [ho] at hlr ⊢
   have hbk : ∀ (l' : List Fx) (put' : Bool) (kv : KV) (h : Heap), l' ++ refL cmpF x put' (f.drop (i + 1)) = refL cmpF x false f → l'.length ≤ 2 * (i + 1) → LeK 0 Tryz.f20.ntmps kv h (SPu put' (i + 1)) (HPu f c x l') →
     ∃ x' : {p : Nat × Bool × List Fx // p.1 ≤ f.length ∧ p.2.2 ++ refL cmpF x p.2.1 (f.drop p.1) = refL cmpF x false f ∧ p.2.2.length ≤ 2 * p.1}, f.length - x'.1.1 < f.length - i ∧ LeK 0 Tryz.f20.ntmps kv h (SPu x'.1.2.1 x'.1.1) (HPu f c x x'.1.2.2) := fun l' put' kv h g1 g2 g3 => ⟨⟨(i + 1, put', l'), hlt, g1, g2⟩, by show f.length - (i + 1) < f.length - i; omega, g3⟩
   refine ⟨by omega, fun _ => ⟨(o, x), fun _ => ⟨by simp, trivial⟩, ⟨_, fun _ => rfl⟩, ?_⟩⟩
   intro b hb
   have hput : (bif !put then !b else false) = true → put = false ∧ ¬ cmpF o x < 0 := fun h => by
    cases put with
    | true => cases h
    | false => rw [hb rfl] at h; exact ⟨rfl, by simpa using h⟩
   have hput2 : (bif !put then !b else false) = false → (put || !decide (cmpF o x < 0)) = put ∧ ¬ (put = false ∧ ¬ cmpF o x < 0) := fun h => by
    cases put with
    | true => exact ⟨rfl, by simp⟩
    | false =>
     rw [hb rfl] at h
     have h : cmpF o x < 0 := by simpa using h
     rw [decide_eq_true h]
     exact ⟨rfl, fun h2 => h2.2 h⟩
   refine ⟨fun h => ?_, fun h => ?_⟩
   ·obtain ⟨hp, hn⟩ := hput h
    rw [if_pos ⟨hp, hn⟩, decide_eq_false hn, Bool.not_false, Bool.or_true] at hlr
    refine ⟨⟨trivial, Nat.le_refl _, by omega⟩, fun _ => ⟨fun h2 => ?_, fun h2 => ⟨by omega, fun _ => ?_⟩⟩⟩
    ·have h2 : ¬ cmpF o x = 0 := by simpa using h2
     rw [if_neg h2] at hlr
     refine ⟨⟨trivial, Nat.le_refl _, by omega⟩, fun _ => ⟨by omega, fun _ => ?_⟩⟩
     rw [if_pos trivial]
     refine hbk (l ++ [x] ++ [o]) true _ _ (by simpa using hlr) (by simp; omega) ⟨by simp [SPu], ⟨by simp [fxS, chS, za], by simp, by simp, by simp [za], by simp, ⟨by simp, rfl, ?_⟩, trivial⟩, by kernel_rfl, Nat.zero_le _⟩
     have := jy (x := o) (l := l ++ [x]) (g := appG l.length (fxG l) (zg (zf 3 [.str x.name, .int .i64 x.date, .str x.value]) 0)) (by simpa using jy (za _ _ _))
     simpa using this
    ·have h2 : cmpF o x = 0 := by simpa using h2
     rw [if_pos h2] at hlr
     rw [if_pos trivial]
     refine hbk (l ++ [x]) true _ _ (by simpa using hlr) (by simp; omega) ⟨by simp [SPu], ⟨by simp [fxS, chS, za], by simp, by simp, by simp [za], by simp, ⟨by simp, rfl, ?_⟩, trivial⟩, by kernel_rfl, Nat.zero_le _⟩
     exact jy (za _ _ _)
   ·obtain ⟨hp, hn⟩ := hput2 h
    rw [if_neg hn, hp] at hlr
    refine ⟨fun h2 => ?_, fun h2 => ⟨by omega, fun _ => ?_⟩⟩
    ·have h2 : ¬ cmpF o x = 0 := by simpa using h2
     rw [if_neg h2] at hlr
     refine ⟨⟨trivial, Nat.le_refl _, by omega⟩, fun _ => ⟨by omega, fun _ => ?_⟩⟩
     rw [if_pos trivial]
     refine hbk (l ++ [o]) put _ _ (by simpa using hlr) (by simp; omega) ⟨by simp [SPu], ⟨by simp [fxS, chS, za], by simp, by simp, by simp [za], by simp, ⟨by simp, rfl, ?_⟩, trivial⟩, by kernel_rfl, Nat.zero_le _⟩
     exact jy (za _ _ _)
    ·have h2 : cmpF o x = 0 := by simpa using h2
     rw [if_pos h2] at hlr
     rw [if_pos trivial]
     exact hbk l put _ _ (by simpa using hlr) (by omega) ⟨by simp [SPu], by simp [HPu, fxS, chS, za], by kernel_rfl, Nat.zero_le _⟩
  ·have hge : i = f.length := by have := of_decide_eq_false hge; omega
   subst hge
   rw [List.drop_length] at hlr
   simp only [refL] at hlr
   refine ⟨fun h => ⟨⟨trivial, Nat.le_refl _, by omega⟩, fun _ => ?_⟩, fun h => ?_⟩
   ·have hp : put = false := by simpa using h
    rw [hp, if_neg (by simp)] at hlr
    rw [← hlr] at hq
    simp only [List.length_append, List.length_cons, List.length_nil] at hq
    refine ⟨fun h3 => ?_, fun h3 => ?_⟩
    ·have h3 : 1000 < l.length + (0 + 1) := by have := of_decide_eq_true h3; omega
     simp only [if_pos h3] at hq
     exact RetR.out0 hq (fun _ => by simp [resV, new2, new1, new0, zR]) (by simp [resV, exp2, exp1, exp0, ren0, eqA2, eqL1, envA, fxS, chS])
    ·have h3 : ¬ 1000 < l.length + (0 + 1) := by have := of_decide_eq_false h3; omega
     simp only [if_neg h3] at hq
     have e1 := jy (x := x) (za l.length 3 (fxG l))
     refine RetR.out0 hq (fun _ => ?_) ?_
     ·simp only [resV, new2, List.mem_cons, List.not_mem_nil, or_false, forall_eq_or_imp, forall_eq, new1]
      exact ⟨⟨wU (h := _) (i := 5) rfl (by omega) fun j o hj ho => by simp only [zg, Nat.zero_add]; rw [e1 j o hj ho]; exact Jo _ _ _ ho, wU (i := 3) rfl (by omega) fun j o hj ho => by simp only [zg, Nat.zero_add]; exact J1 _ _ _ ho⟩, rfl⟩
     ·simp only [resV, exp2, List.map_cons, List.map_nil, exp1]
      rw [jv (i := 5) rfl (by omega), jv (i := 3) rfl (by omega)]
      simp [eqA2, eqL1, envA, fxS, chS, exp0, ren0, jH, za]
      exact fun j o hj ho => by simp only [zg, Nat.zero_add]; exact e1 j o hj ho
   ·have hp : put = true := by simpa using h
    rw [hp, if_pos rfl, List.append_nil] at hlr
    rw [← hlr] at hq
    refine ⟨fun h3 => ?_, fun h3 => ?_⟩
    ·have h3 : 1000 < l.length := by have := of_decide_eq_true h3; omega
     simp only [if_pos h3] at hq
     exact RetR.out0 hq (fun _ => by simp [resV, new2, new1, new0, zR]) (by simp [resV, exp2, exp1, exp0, ren0, eqA2, eqL1, envA, fxS, chS])
    ·have h3 : ¬ 1000 < l.length := by have := of_decide_eq_false h3; omega
     simp only [if_neg h3] at hq
     refine RetR.out0 hq (fun _ => ?_) ?_
     ·simp only [resV, new2, List.mem_cons, List.not_mem_nil, or_false, forall_eq_or_imp, forall_eq, new1]
      exact ⟨⟨wU (i := 5) rfl (by omega) fun j o hj ho => by simp only [zg, Nat.zero_add]; exact Jo _ _ _ ho, wU (i := 3) rfl (by omega) fun j o hj ho => by simp only [zg, Nat.zero_add]; exact J1 _ _ _ ho⟩, rfl⟩
     ·simp only [resV, exp2, List.map_cons, List.map_nil, exp1]
      rw [jv (i := 5) rfl (by omega), jv (i := 3) rfl (by omega)]
      simp [eqA2, eqL1, envA, fxS, chS, exp0, ren0, jH, za]
theorem zd8 : zd Tryz.prog 20 XW := by
 refine ze (fn := Tryz.f20) (c := Tryz.f20.body.getD .skip) rfl rfl rfl fun p hp O w0 Q hq => ?_
 obtain ⟨⟨f, c⟩, ⟨a, d, v⟩⟩ := p
 obtain ⟨he, hs1, hs2⟩ := hp
 replace hq := hq _ rfl
 simp only at hq he hs1 hs2
 refine zb.run hmix Ui [2, 3, 4, 6, 7, 8, 55, 56, 57, 58, 72, 73, 74, 75, 76] 400 (T := .ex (fun (x : List Fx × List Ch) => eqL [AV.agg [AV.sl f.length 3 (fxG f), AV.sl c.length 4 (chG c)]] [AV.agg [AV.sl x.1.length 3 (fxG x.1), AV.sl x.2.length 4 (chG x.2)]] ∧ envP x) fun n => .all (fun (r : Int) => r = errE n.1 n.2) fun n => .ite (!decide (n = 0)) (.ex (fun (x : List Fx × List Ch) => eqL [AV.agg [AV.sl f.length 3 (fxG f), AV.sl c.length 4 (chG c)]] [AV.agg [AV.sl x.1.length 3 (fxG x.1), AV.sl x.2.length 4 (chG x.2)]] ∧ envP x) fun n => .all (fun (r : Int) => r = errE n.1 n.2) fun n => .leaf (.ret [.agg [.nils, .nils], .int .i64 n] [.box [.sl f.length 3 (fxG f), .sl c.length 4 (chG c)], .box [.str a, .int .i64 d, .str v], .box [.nils, .nils]])) (.ex (fun (x : List UInt8) => eqL [AV.str a] [AV.str x] ∧ x.length < 4611686018427387904) fun n => .all (fun (r : Bool) => r = zD n) fun n => .ex (fun (x : Int) => (!n) = false → eqL [AV.int .i64 d] [AV.int .i64 x] ∧ True) fun n_1 => .all (fun (x : Bool) => (!n) = false → x = dayB n_1) fun n_2 => .ite (bif !n then true else !n_2) (.leaf (.ret [.agg [.nils, .nils], .int .i64 2] [.box [.sl f.length 3 (fxG f), .sl c.length 4 (chG c)], .box [.str a, .int .i64 d, .str v], .box [.nils, .nils]])) (.ex (fun (x : List UInt8) => eqL [AV.str v] [AV.str x] ∧ x.length < 1099511627776) fun n => .all (fun (r : Int) => r = errR n) fun n => .ite (!decide (n = 0)) (.ex (fun (x : List UInt8) => eqL [AV.str v] [AV.str x] ∧ x.length < 1099511627776) fun n => .all (fun (r : Int) => r = errR n) fun n => .leaf (.ret [.agg [.nils, .nils], .int .i64 n] [.box [.sl f.length 3 (fxG f), .sl c.length 4 (chG c)], .box [.str a, .int .i64 d, .str v], .box [.nils, .nils]])) (.side (0 = 0 ∧ 0 ≤ 0 ∧ (0 + c.length) * 48 ≤ 140737488355328) (.leaf (.loop (Prod.fst (lps K20 0)) (Prod.snd (lps K20 0)) [(2, .ptr 0 0), (3, .ptr 1 0), (4, .ptr 2 0), (6, .ptr 4 0), (7, .bool false), (8, .int .i64 0), (55, .undef), (56, .undef), (57, .undef), (58, .undef), (72, .undef), (73, .undef), (74, .undef), (75, .undef), (76, .undef)] [.box [.sl f.length 3 (fxG f), .sl c.length 4 (chG c)], .box [.str a, .int .i64 d, .str v], .box [.nils, .nils], .arr (0 + c.length) 4 (appG 0 (zf 4 []) (chG c)), .box [.nils, .osl 3 4 0 (0 + c.length)]])))))) (by kernel_rfl) ?_
 simp only [Tree.holds, zc]
 have bad : ∀ (e : Int) (h : Heap), putF f c ⟨a, d, v⟩ = (([], []), e) → RetR XW 0 Q [.agg [.nils, .nils], .int .i64 e] h := fun e h hr => by
  rw [hr] at hq
  exact RetR.out0 hq (fun _ => by simp [resV, new2, new1, new0, zR]) (by simp [resV, exp2, exp1, exp0, ren0, eqA2, eqL1, envA, fxS, chS])
 refine ⟨(f, c), ⟨by simp [za], he⟩, ⟨_, rfl⟩, ?_⟩
 rintro _ rfl
 refine ⟨fun h => ?_, fun h => ?_⟩
 ·have h : errE f c ≠ 0 := by simpa using h
  refine ⟨(f, c), ⟨by simp [za], he⟩, ⟨_, rfl⟩, ?_⟩
  rintro _ rfl
  exact bad _ _ (by simp [putF, h])
 ·have h : errE f c = 0 := by simpa using h
  refine ⟨a, ⟨by simp, by omega⟩, ⟨_, rfl⟩, ?_⟩
  rintro _ rfl
  refine ⟨d, fun _ => ⟨by simp, trivial⟩, ⟨_, fun _ => rfl⟩, ?_⟩
  intro b1 g1
  have key : (bif !zD a then true else !b1) = !(zD a && dayB d) := by
   cases hn : zD a with
   | false => rfl
   | true => rw [g1 (by rw [hn]; rfl)]; rfl
  rw [key]
  refine ⟨fun h2 => ?_, fun h2 => ?_⟩
  ·exact bad _ _ (by simp only [putF]; rw [if_neg (by simp [h]), if_pos (by simpa only [Bool.not_eq_true'] using h2)])
  ·have h2 : ¬ (zD a && dayB d) = false := by simpa using h2
   refine ⟨v, ⟨by simp, by omega⟩, ⟨_, rfl⟩, ?_⟩
   rintro _ rfl
   refine ⟨fun h3 => ?_, fun h3 => ?_⟩
   ·have h3 : errR v ≠ 0 := by simpa using h3
    refine ⟨v, ⟨by simp, by omega⟩, ⟨_, rfl⟩, ?_⟩
    rintro _ rfl
    exact bad _ _ (by simp only [putF]; rw [if_neg (by simp [h]), if_neg h2, if_pos h3])
   ·have h3 : ¬ errR v ≠ 0 := by simpa using h3
    obtain ⟨hb, _, _, ho, _⟩ := j3.1 h
    have hpl : refL cmpF ⟨a, d, v⟩ false f = wk cmpF ⟨a, d, v⟩ f := ZH Zm (uO Zm ho)
    have hr : putF f c ⟨a, d, v⟩ = if 1000 < (refL cmpF ⟨a, d, v⟩ false f).length then (([], []), 22) else ((refL cmpF ⟨a, d, v⟩ false f, c), 0) := by
     simp only [putF]; rw [if_neg (by simp [h]), if_neg h2, if_neg h3, hpl]
    rw [hr] at hq
    refine ⟨⟨trivial, Nat.le_refl _, by omega⟩, fun _ => ?_⟩
    exact Ya f c ⟨a, d, v⟩ (by omega) (by omega) hq
end Go.Proofs.Tryz
end

/- What is known: size; the code's finding. -/
section
set_option maxRecDepth 100000
open Go Go.Sx Go.Proofs Go.Nov
namespace Go.Proofs.Tryz
attribute [local simp] eqKV eqA eqA0 eqH eqB eqL eqL0
noncomputable def K5 : List Go.Sx.Item := [.code (Tryz.f5.body.getD .skip)]
def X8 (f : Fx) : Prop := f.name.length < 2 ^ 49 ∧ f.value.length < 2 ^ 49
def Wv (c : Ch) : Prop := c.zL.length < 2 ^ 49 ∧ c.name.length < 2 ^ 49
def fitP (p : List Fx × List Ch) : Prop := p.1.length ≤ 1100 ∧ p.2.length ≤ 1100 ∧ (∀ j, j < p.1.length → (p.1.getD j Fx.nil).name.length ≤ 20000 ∧ (p.1.getD j Fx.nil).value.length ≤ 20000) ∧ ∀ j, j < p.2.length → (p.2.getD j Ch.nil).zL.length ≤ 20000 ∧ (p.2.getD j Ch.nil).name.length ≤ 20000
def KQ : Ctr := ctrP true (fun p : List Fx × List Ch => [envA p.1 p.2]) (fun p => p.1.length < 2 ^ 60 ∧ p.2.length < 2 ^ 60 ∧ (∀ j, j < p.1.length → X8 (p.1.getD j Fx.nil)) ∧ ∀ j, j < p.2.length → Wv (p.2.getD j Ch.nil)) (fun p r => r = false → fitP p) (fun _ (r : Bool) => (.bool r, []))
def SGq (n i : Nat) : KV := [(1, .ptr 0 0), (3, .int .i64 (n : Int)), (4, .int .i64 (i : Int)), (5, .undef)]
def SGq2 (n i : Nat) : KV := [(1, .ptr 0 0), (3, .int .i64 (n : Int)), (4, .undef), (5, .int .i64 (i : Int))]
theorem Wj {O : Nat → Prop} {w0 : World} {Q : AV × Heap → Prop} {Hs : Nat → KV → Heap → Prop} (f : List Fx) (c : List Ch) (n : Nat) (hf : f.length ≤ 1100) (hc : c.length ≤ 1100) (h3 : ∀ j, j < c.length → Wv (c.getD j Ch.nil)) (hn : n ≤ 1100 * 2 ^ 50) (hnf : ∀ j, j < f.length → (f.getD j Fx.nil).name.length ≤ n ∧ (f.getD j Fx.nil).value.length ≤ n)
  (hq : ∀ r : Bool, (r = false → fitP (f, c)) → Q (.bool r, [])) (kv : KV) (h : Heap) (hle : LeK 0 Tryz.f5.ntmps kv h (SGq2 n 0) (HE f c)) :
  zb Tryz.prog Tryz.f5 O 0 w0 [] Hs (RetR KQ 0 Q) (.code (.loop (lps (inside K5 0) 0).1) :: (lps (inside K5 0) 0).2) (mk Tryz.f5.ntmps kv h) := by
 refine zb.loop (ι := {p : Nat × Nat // p.2 ≤ c.length ∧ n ≤ p.1 ∧ p.1 ≤ (1100 + p.2) * 2 ^ 50 ∧ ∀ j, j < p.2 → (c.getD j Ch.nil).zL.length ≤ p.1 ∧ (c.getD j Ch.nil).name.length ≤ p.1}) (fun p => SGq2 p.1.1 p.1.2) (fun _ => HE f c) (fun p => c.length - p.1.2) ⟨(n, 0), Nat.zero_le _, Nat.le_refl _, by simpa using hn, fun j hj => by simp at hj⟩ 0 hle ?_ (by kernel_rfl)
 rintro ⟨⟨m, i⟩, hil, hnm, hm, hib⟩
 simp only at hil hnm hm hib
 refine zb.run hmix zq [1, 3, 4, 5] 400 (T := .ite (decide ((↑i : Int) < c.length)) (.side ((0 : Int) ≤ i ∧ (↑i : Int) < c.length) (.side (inR .i64 ((↑m : Int) + (↑(List.length (Ch.zL (List.getD c (Int.toNat (↑i : Int)) Ch.nil))) : Int))) (.side ((0 : Int) ≤ i ∧ (↑i : Int) < c.length) (.side (inR .i64 ((↑m : Int) + (↑(List.length (Ch.zL (List.getD c (Int.toNat (↑i : Int)) Ch.nil))) : Int) + (↑(List.length (Ch.name (List.getD c (Int.toNat (↑i : Int)) Ch.nil))) : Int))) (.side (inR .i64 ((↑i : Int) + (1 : Int))) (.leaf (.back 0 [(1, .ptr 0 0), (3, .int .i64 ((↑m : Int) + (↑(List.length (Ch.zL (List.getD c (Int.toNat (↑i : Int)) Ch.nil))) : Int) + (↑(List.length (Ch.name (List.getD c (Int.toNat (↑i : Int)) Ch.nil))) : Int))), (4, .undef), (5, .int .i64 ((↑i : Int) + (1 : Int)))] [.box [.sl f.length 3 (fxG f), .sl c.length 4 (chG c)]]))))))) (.leaf (.ret [.bool (decide ((20000 : Int) < m))] [.box [.sl f.length 3 (fxG f), .sl c.length 4 (chG c)]]))) (by kernel_rfl) ?_
 simp only [Tree.holds, zc, inR, lo, hi, Int.toNat_natCast]
 refine ⟨fun hlt => ?_, fun hge => ?_⟩
 ·have hlt : i < c.length := by have := of_decide_eq_true hlt; omega
  obtain ⟨g1, g2⟩ := h3 i hlt
  iterate 5 refine ⟨by omega, fun _ => ?_⟩
  rw [if_pos trivial]
  refine ⟨⟨(m + (c.getD i Ch.nil).zL.length + (c.getD i Ch.nil).name.length, i + 1), hlt, by simp only; omega, by simp only; omega, fun j hj => ?_⟩, by show c.length - (i + 1) < c.length - i; omega, by simp [SGq2], by simp [HE, fxS, chS, za], by kernel_rfl, Nat.zero_le _⟩
  simp only at hj ⊢
  rcases Nat.lt_or_ge j i with h1 | h1
  ·have := hib j h1; omega
  ·have : j = i := by omega
   rw [this]; omega
 ·have hge : i = c.length := by have := of_decide_eq_false hge; omega
  subst hge
  refine RetR.scal (hq (decide (20000 < (m : Int))) fun h => ?_) rfl (by simp [resV])
  have h := of_decide_eq_false h
  exact ⟨hf, hc, fun j hj => by have := hnf j hj; simp only; omega, fun j hj => by have := hib j hj; simp only; omega⟩
theorem Uz : zd Tryz.prog 5 KQ := by
 refine ze (fn := Tryz.f5) (c := Tryz.f5.body.getD .skip) rfl rfl rfl fun p hp O w0 Q hq => ?_
 obtain ⟨f, c⟩ := p
 obtain ⟨h1, h2, h3, h4⟩ := hp
 simp only at hq h1 h2 h3 h4
 refine zb.run hmix zq [1, 3, 4, 5] 400 (T := .ite (bif decide ((1100 : Int) < f.length) then true else decide ((1100 : Int) < c.length)) (.leaf (.ret [.bool true] [.box [.sl f.length 3 (fxG f), .sl c.length 4 (chG c)]])) (.leaf (.loop (Prod.fst (lps K5 0)) (Prod.snd (lps K5 0)) [(1, .ptr 0 0), (3, .int .i64 0), (4, .int .i64 0), (5, .undef)] [.box [.sl f.length 3 (fxG f), .sl c.length 4 (chG c)]]))) (by kernel_rfl) ?_
 simp only [Tree.holds, zc]
 refine ⟨fun h => ?_, fun h => ?_⟩
 ·exact RetR.scal (hq true fun h => (by cases h)) rfl (by simp [resV])
 ·have hbig : f.length ≤ 1100 ∧ c.length ≤ 1100 := by
   rw [Bool.cond_eq_ite] at h
   split at h
   ·cases h
   ·rename_i g1
    have g2 := of_decide_eq_false h
    have g1 := of_decide_eq_false (by simpa using g1 : decide (1100 < (f.length : Int)) = false)
    omega
  obtain ⟨hf, hc⟩ := hbig
  refine zb.loop (ι := {p : Nat × Nat // p.2 ≤ f.length ∧ p.1 ≤ p.2 * 2 ^ 50 ∧ ∀ j, j < p.2 → (f.getD j Fx.nil).name.length ≤ p.1 ∧ (f.getD j Fx.nil).value.length ≤ p.1}) (fun p => SGq p.1.1 p.1.2) (fun _ => HE f c) (fun p => f.length - p.1.2) ⟨(0, 0), Nat.zero_le _, by simp, fun j hj => by simp at hj⟩ 0 ?_ ?_ (by kernel_rfl)
  ·exact ⟨by simp [SGq], by simp [HE, fxS, chS, za], by kernel_rfl, Nat.zero_le _⟩
  ·rintro ⟨⟨m, i⟩, hil, hm, hib⟩
   simp only at hil hm hib
   refine zb.run hmix zq [1, 3, 4, 5] 400 (T := .ite (decide ((↑i : Int) < f.length)) (.side ((0 : Int) ≤ i ∧ (↑i : Int) < f.length) (.side (inR .i64 ((↑m : Int) + (↑(List.length (Fx.name (List.getD f (Int.toNat (↑i : Int)) Fx.nil))) : Int))) (.side ((0 : Int) ≤ i ∧ (↑i : Int) < f.length) (.side (inR .i64 ((↑m : Int) + (↑(List.length (Fx.name (List.getD f (Int.toNat (↑i : Int)) Fx.nil))) : Int) + (↑(List.length (Fx.value (List.getD f (Int.toNat (↑i : Int)) Fx.nil))) : Int))) (.side (inR .i64 ((↑i : Int) + (1 : Int))) (.leaf (.back 0 [(1, .ptr 0 0), (3, .int .i64 ((↑m : Int) + (↑(List.length (Fx.name (List.getD f (Int.toNat (↑i : Int)) Fx.nil))) : Int) + (↑(List.length (Fx.value (List.getD f (Int.toNat (↑i : Int)) Fx.nil))) : Int))), (4, .int .i64 ((↑i : Int) + (1 : Int))), (5, .undef)] [.box [.sl f.length 3 (fxG f), .sl c.length 4 (chG c)]]))))))) (.leaf (.loop (Prod.fst (lps (inside K5 0) 0)) (Prod.snd (lps (inside K5 0) 0)) [(1, .ptr 0 0), (3, .int .i64 m), (4, .int .i64 i), (5, .int .i64 0)] [.box [.sl f.length 3 (fxG f), .sl c.length 4 (chG c)]]))) (by kernel_rfl) ?_
   simp only [Tree.holds, zc, inR, lo, hi, Int.toNat_natCast]
   refine ⟨fun hlt => ?_, fun hge => ?_⟩
   ·have hlt : i < f.length := by have := of_decide_eq_true hlt; omega
    obtain ⟨g1, g2⟩ := h3 i hlt
    iterate 5 refine ⟨by omega, fun _ => ?_⟩
    rw [if_pos trivial]
    refine ⟨⟨(m + (f.getD i Fx.nil).name.length + (f.getD i Fx.nil).value.length, i + 1), hlt, by simp only; omega, fun j hj => ?_⟩, by show f.length - (i + 1) < f.length - i; omega, by simp [SGq], by simp [HE, fxS, chS, za], by kernel_rfl, Nat.zero_le _⟩
    simp only at hj ⊢
    rcases Nat.lt_or_ge j i with h1 | h1
    ·have := hib j h1; omega
    ·have : j = i := by omega
     rw [this]; omega
   ·have hge : i = f.length := by have := of_decide_eq_false hge; omega
    subst hge
    exact Wj f c m hf hc h4 (Nat.le_trans hm (Nat.mul_le_mul_right _ hf)) hib hq _ _ ⟨by simp [SGq2], by simp [HE, fxS, chS, za], by kernel_rfl, Nat.zero_le _⟩
def Xm : Ctr := ctrP true (fun l : List Ch => [chS l]) (fun l => l.length < 2 ^ 40) (fun _ (_ : Unit) => True) (fun l _ => (.osl 0 4 0 l.length, [.arr l.length 4 (chG l)]))
theorem Yi : zd Tryz.prog 12 Xm := by
 refine Wp (fn := Tryz.f12) (c := Tryz.f12.body.getD .skip) rfl rfl rfl fun l hl O w0 Q hq => ?_
 replace hq := hq () trivial
 refine zb.run hmix zq [] 400 (T := .all (fun (b : Bool) => 0 < l.length → b = false) fun n => .ite n (.leaf (.ret [.nils] [])) (.side (0 = 0 ∧ 0 ≤ 0 ∧ (0 + l.length) * 48 ≤ 140737488355328) (.leaf (.ret [.osl 0 4 0 (0 + l.length)] [.arr (0 + l.length) 4 (appG 0 (zf 4 []) (chG l))])))) (by kernel_rfl) ?_
 simp only [Tree.holds, zc]
 refine ⟨⟨false, fun _ => rfl⟩, fun b hb => ⟨fun h => ?_, fun h => ⟨⟨trivial, Nat.le_refl _, by omega⟩, fun _ => ?_⟩⟩⟩
 ·have h0 : l = [] := by
   rcases Nat.eq_zero_or_pos l.length with h0 | h0
   ·exact List.length_eq_zero_iff.1 h0
   ·rw [hb h0] at h; cases h
  subst h0
  refine RetR.scal (.inr ⟨.osl 0 4 0 0, [(4, chG [])], by simp [upA2, upA1, upA0], ?_⟩) (r := .nils) rfl (by simp [resV])
  exact hq
 ·refine RetR.outs [0] rfl rfl (.inl hq) (fun _ => ⟨?_, ?_⟩) ?_ ?_ rfl
  ·simp [resV, new2, new1, new0, zA]
  ·simp only [List.mem_cons, List.not_mem_nil, or_false, forall_eq]
   exact yo (vB _ _ _ _)
  ·simp [resV, exp2, exp1, exp0, zA, eqA2, eqL1]
  ·exact ⟨⟨by omega, rfl, vB _ _ _ _⟩, trivial⟩
end Go.Proofs.Tryz
end

/- The library's insertion of one element, as a contract: from what its walk shows. -/
section
namespace Go.Sx
variable [Stat]
theorem yM {a b sz o : Nat} (h : a < b) (ho : o < sz) : a * sz + o < b * sz := by
 have : (a + 1) * sz ≤ b * sz := Nat.mul_le_mul_right _ h
 rw [Nat.succ_mul] at this; omega
end Go.Sx
end

/- What is known: the library's insertion, by its walk. -/
section
set_option maxRecDepth 100000
open Go Go.Sx Go.Proofs Go.Nov
namespace Go.Proofs.Tryz
attribute [local simp] eqKV eqA eqA0 eqH eqB eqL eqL0
theorem kf {α : Type} {l m : List α} {a : Nat} (h : a + m.length ≤ l.length) (k : Nat) : (l.take a ++ m ++ l.drop (a + m.length))[k]? = if k < a then l[k]? else if k < a + m.length then m[k - a]? else l[k]? := by
 have hl : (l.take a).length = a := by rw [List.length_take]; omega
 rw [List.getElem?_append, List.getElem?_append, hl]
 simp only [List.length_append, hl]
 by_cases h1 : k < a
 ·rw [if_pos (by omega), if_pos h1, if_pos h1, List.getElem?_take, if_pos h1]
 ·rw [if_neg h1, if_neg h1]
  by_cases h2 : k < a + m.length
  ·rw [if_pos h2, if_pos h2]
  ·rw [if_neg h2, if_neg h2, List.getElem?_drop]; congr 1; omega
theorem vH {l : List Value} {o k j : Nat} : ((l.drop o).take k)[j]? = if j < k then l[o + j]? else none := by
 rw [List.getElem?_take]
 split
 ·rw [List.getElem?_drop]
 ·rfl
end Go.Proofs.Tryz
end

/- What is known: the code's places. -/
section
set_option maxRecDepth 100000
open Go Go.Sx Go.Proofs Go.Nov
namespace Go.Proofs.Tryz
attribute [local simp] eqKV eqA eqA0 eqH eqB eqL eqL0
theorem zd1 {ctr : Ctr} {Q : AV × Heap → Prop} (e : Int) (h : Heap) (hq : Q (.tup [.agg [.osl 0 3 0 ([] : List Fx).length, .osl 1 4 0 ([] : List Ch).length], .int .i64 e], [.arr ([] : List Fx).length 3 (fxG []), .arr ([] : List Ch).length 4 (chG [])])) : RetR ctr 0 (upQ Q) [.agg [.nils, .nils], .int .i64 e] h := by
 refine RetR.out0 (r := .tup [.agg [.nils, .nils], .int .i64 e]) (.inr ⟨_, [(3, fxG []), (4, chG [])], ?_, hq⟩) (fun _ => by simp [resV, new2, new1, new0, zR]) (by simp [resV, exp2, exp1, exp0, ren0, eqA2, eqL1])
 simp [upA2, upA1, upA0, upL1, upL0]
end Go.Proofs.Tryz
end

/- The law: what is known. -/
section
set_option maxRecDepth 100000
open Go Go.Sx Go.Proofs Go.Nov
namespace Go.Proofs.Tryz
attribute [local simp] eqKV eqA eqA0 eqH eqB eqL eqL0
theorem vf {f : List Fx} {c : List Ch} {x : Fx} : (putF f c x).1.1.length ≤ 1000 ∧ (putF f c x).1.2.length ≤ 1000 := by
 unfold putF
 by_cases h0 : errE f c ≠ 0
 ·rw [if_pos h0]; simp
 ·rw [if_neg h0]
  have h := j3.1 (Classical.not_not.1 h0)
  split
  ·simp
  ·split
   ·simp
   ·split
    ·simp
    ·simp only; omega
end Go.Proofs.Tryz
end

/- Tables: what was put last is found, all else stays, and the order of different keys does not matter. -/
section
namespace Go.Nov
theorem JH : ∀ s t : List UInt8, Op.bytesLess s t = true ∨ s = t ∨ Op.bytesLess t s = true
 | [], [] => .inr (.inl rfl)
 | [], _ :: _ => .inl rfl
 | _ :: _, [] => .inr (.inr rfl)
 | a :: s, b :: t => by
  simp only [Op.bytesLess, Bool.or_eq_true, Bool.and_eq_true, decide_eq_true_eq, beq_iff_eq]
  by_cases h : a = b
  ·subst h
   rcases JH s t with g | g | g
   ·exact .inl (.inr ⟨rfl, g⟩)
   ·exact .inr (.inl (by rw [g]))
   ·exact .inr (.inr (.inr ⟨rfl, g⟩))
  ·rcases UInt8.lt_or_lt_of_ne h with g | g
   ·exact .inl (.inl g)
   ·exact .inr (.inr (.inl g))
structure OrdT {α : Type} (c : α → α → Int) : Prop extends OrdK c where
 irr : ∀ a, c a a = 0
 tot : ∀ a b, c a b < 0 ∨ c a b = 0 ∨ c b a < 0
 sym : ∀ a b, c a b = 0 → c b a = 0
 eqt : ∀ a b d, c a b = 0 → c b d = 0 → c a d = 0
 eq2 : ∀ a b d, c a b = 0 → c b d < 0 → c a d < 0
theorem zao : OrdT cmpF where
 toOrdK := Zm
 irr a := by rw [vP]; exact ⟨rfl, rfl⟩
 tot a b := by
  rw [wu, vP, wu]
  rcases JH a.name b.name with h | h | h
  ·exact .inl (.inl h)
  ·rcases Int.lt_trichotomy a.date b.date with g | g | g
   ·exact .inl (.inr ⟨h, g⟩)
   ·exact .inr (.inl ⟨h, g⟩)
   ·exact .inr (.inr (.inr ⟨h.symm, g⟩))
  ·exact .inr (.inr (.inl h))
 sym a b h := by rw [vP] at h ⊢; exact ⟨h.1.symm, h.2.symm⟩
 eqt a b d h g := by rw [vP] at h g ⊢; exact ⟨h.1.trans g.1, h.2.trans g.2⟩
 eq2 a b d h g := by rw [vP] at h; rw [wu] at g ⊢; rw [h.1, h.2]; exact g
section
variable {α : Type} {c : α → α → Int} {z x y : α} (hk : OrdT c)
include hk
theorem za4 {a b : α} (h : c a b < 0) : ¬ c b a < 0 ∧ c b a ≠ 0 := by
 refine ⟨fun g => ?_, fun g => ?_⟩
 ·have := hk.lt a b a h g
  rw [hk.irr] at this; omega
 ·have := hk.sym b a g; omega
theorem zau : ∀ {l : List α}, l.Pairwise (fun a b => c a b < 0) → ordB c z l = true := fun {l} h => by
 refine kF fun j hj => ?_
 have := List.pairwise_iff_getElem.1 h j (j + 1) (by omega) hj (by omega)
 simpa [List.getD, List.getElem?_eq_getElem (show j < l.length by omega), List.getElem?_eq_getElem hj] using this
end
end Go.Nov
end

/- Two puts. -/
section
namespace Go.Nov
theorem zcw {f : List Fx} {c : List Ch} {x : Fx} (h : errE f c = 0) (hx : okF x = true) (hl : (wk cmpF x f).length ≤ 1000) : putF f c x = ((wk cmpF x f, c), 0) := by
 unfold okF at hx
 simp only [Bool.and_eq_true, decide_eq_true_eq] at hx
 unfold putF
 rw [if_neg (by rw [h]; simp), if_neg (by rw [hx.1.1, hx.1.2]; simp), if_neg (by rw [hx.2]; simp), if_neg (by omega)]
end Go.Nov
end

/- Corporate actions: the world before one. -/
section
namespace Go.Nov
open Go.Sx
structure Ca where
 name : List UInt8
 into : List UInt8
 date : Int
 ratio : List UInt8
 extra : List UInt8
def Ca.av (a : Ca) : AV := .agg [.str a.name, .str a.into, .int .i64 a.date, .str a.ratio, .str a.extra]
theorem W7 {a : List UInt8} (h : errR a = 0) : (a.getD 0 0 = 45 ↔ qv a < 0) ∧ (a = [48] ↔ qv a = 0) ∧ a ≠ [] := by
 obtain ⟨p1, p2, p3, p4⟩ := yA h
 generalize qv a = r at p1 p2 p3 p4
 have ht : ∃ t : List UInt8, a = (wz r.num).1 ++ t ∧ (r.den = 1 → t = []) := by
  rw [← p3]
  unfold qstr
  by_cases hd1 : r.den = 1
  ·rw [if_pos hd1]; exact ⟨[], by simp, fun _ => rfl⟩
  ·rw [if_neg hd1]; exact ⟨[47] ++ (wz r.den).1, by simp, fun h => absurd h hd1⟩
 obtain ⟨t, e, ht⟩ := ht
 have hneg : r < 0 ↔ r.num < 0 := by
  rw [Rat.lt_iff]
  simp
 rcases UN r.num with ⟨z0, zs⟩ | ⟨z0, zr, zs⟩ | zr
 ·have hr0 : r = 0 := Rat.num_eq_zero.1 z0
  have ht := ht (by rw [hr0]; rfl)
  rw [zs, ht] at e
  subst e
  rw [hneg, z0]
  exact ⟨⟨fun h => absurd h (by decide), fun h => absurd h (by decide)⟩, ⟨fun _ => hr0, fun _ => rfl⟩, by simp⟩
 ·have hr0 : r ≠ 0 := fun h => z0 (by rw [h]; rfl)
  have hx : r.num.natAbs ≠ 0 := by omega
  obtain ⟨f1, f2⟩ := yN hx
  have fne := VY hx
  rw [zs] at e
  rw [hneg]
  by_cases hlt : r.num < 0
  ·rw [decide_eq_true hlt, zae] at e
   subst e
   exact ⟨⟨fun _ => hlt, fun _ => rfl⟩, ⟨fun h => by simp at h, fun h => absurd h hr0⟩, by simp⟩
  ·rw [decide_eq_false hlt, Y7] at e
   generalize txt r.num.natAbs = b at *
   cases b with
   | nil => exact absurd rfl fne
   | cons c b =>
    simp only [List.getD_cons_zero] at f1 f2
    subst e
    exact ⟨⟨fun h => absurd h f2, fun h => absurd h hlt⟩, ⟨fun h => by simp [f1] at h, fun h => absurd h hr0⟩, by simp⟩
 ·exact absurd p4.1 zr
theorem zcs {a : List UInt8} (h : errR a = 0) : 0 < qv a ↔ a ≠ [48] ∧ a.getD 0 0 ≠ 45 := by
 obtain ⟨h1, h2, h3⟩ := W7 h
 rw [ne_eq, ne_eq, h1, h2]
 generalize qv a = r
 have := Rat.lt_iff (a := r) (b := 0)
 constructor
 ·intro h; exact ⟨by grind, by grind⟩
 ·rintro ⟨h4, h5⟩; grind
theorem XY : errR [48] = 0 := by decide +kernel
theorem zgx : qv [48] = 0 := by decide +kernel
theorem zbn {a : List UInt8} : (errR a ≠ 0 → (cmpR a [48]).2 ≠ 0) ∧ (errR a = 0 → (cmpR a [48]).2 = 0 ∧ (cmpR a [48]).1 = if qv a < 0 then -1 else if 0 < qv a then 1 else 0) := by
 constructor
 ·intro h
  have h2 : qj a [48] = errR a := by unfold qj; rw [if_neg h]
  have hc : zE a [48] = errR a := by unfold zE; rw [h2, if_pos h]
  unfold cmpR
  rw [hc, if_pos h]
  exact h
 ·intro h
  have hn : (cmpR a [48]).2 ≠ 14 → _ := fun g => (zg0 h XY).resolve_left (fun k => g (by rw [k]))
  have key : (cmpR a [48]).2 ≠ 14 := by
   obtain ⟨a1, a2, b1, b2, a4, b4, h2⟩ := Ve h XY
   have hx : mulI (numR a) (denR [48]) = (numR a, 0) := by
    rw [show denR [48] = [49] from by decide +kernel, xK (zl.2 ⟨a1, Vb⟩), show zI [49] = 1 from by decide +kernel, Int.mul_one]
    exact ye a1
   have hy : mulI (numR [48]) (denR a) = ([48], 0) := by
    rw [xK (zl.2 ⟨b1, a2⟩), show zI (numR [48]) = 0 from by decide +kernel, Int.zero_mul]
    decide +kernel
   have hc : zE a [48] = 0 := by
    unfold zE
    rw [h2, if_neg (by simp), hx, hy]
    simp
   unfold cmpR
   rw [hc, if_neg (by simp), hx, hy]
   unfold uz
   rw [if_pos (zl.2 ⟨a1, by decide +kernel⟩)]
   simp
  have := hn key
  rw [this, zgx]
  exact ⟨rfl, rfl⟩
theorem U7 (z w : List UInt8 × Int) : (frac z w).1.length ≤ 2003 := by
 unfold frac
 split
 ·simp
 ·unfold qC
  split
  ·simp
  ·split
   ·simp
   ·exact YB _ _ _
theorem WH (a b : List UInt8) : (mulR a b).1.length ≤ 2003 := by
 unfold mulR
 split
 ·simp
 ·exact U7 _ _
namespace Ca
def ok (a : Ca) : Bool := zD a.name && (zD a.into && (dayB a.date && (decide (errR a.ratio = 0) && (decide (0 < qv a.ratio) && decide (errR a.extra = 0)))))
def old (a : Ca) (x : List UInt8) : List UInt8 × Int := if (mulR a.ratio x).2 ≠ 0 then ([], (mulR a.ratio x).2) else addR (mulR a.ratio x).1 a.extra
def hit (a : Ca) (f : Fx) : Bool := decide (f.name = a.into) && decide (a.date ≤ f.date)
def keep (a : Ca) (f : Fx) : Bool := !decide (f.name = a.name) || decide (f.date < a.date)
def mk' (a : Ca) (f : Fx) : Fx := ⟨a.name, f.date, (a.old f.value).1⟩
def fresh (a : Ca) (l : List Fx) : List Fx := (l.filter a.hit).map a.mk'
def kept (a : Ca) (l : List Fx) : List Fx := l.filter a.keep
def bad (a : Ca) (f : Fx) : Bool := a.hit f && decide ((a.old f.value).2 ≠ 0)
def err (a : Ca) (l : List Fx) : Int := match l.find? a.bad with
 | some f => (a.old f.value).2
 | none => 0
def at_ (a : Ca) (l : List Fx) : Nat := l.findIdx fun f => Op.bytesLess a.name f.name
def join (a : Ca) (l m : List Fx) : List Fx := l.take (a.at_ l) ++ m ++ l.drop (a.at_ l)
def before (a : Ca) (f : List Fx) (c : List Ch) : (List Fx × List Ch) × Int :=
 if a.ok = false then (([], []), 8) else if errE f c ≠ 0 then (([], []), errE f c) else if a.err f ≠ 0 then (([], []), a.err f)
 else if 1000 < (a.kept f).length + (a.fresh f).length then (([], []), 22) else ((a.join (a.kept f) (a.fresh f), c), 0)
theorem Wx {a : Ca} {l : List Fx} {i : Nat} (hi : i < l.length) (h : a.err (l.take i) = 0) : a.err (l.take (i + 1)) = if a.bad (l.getD i Fx.nil) = true then (a.old (l.getD i Fx.nil).value).2 else 0 := by
 have hn : (l.take i).find? a.bad = none := by
  unfold err at h
  split at h
  ·rename_i f hf
   have := List.find?_some hf
   simp only [bad, Bool.and_eq_true, decide_eq_true_eq] at this
   exact absurd h this.2
  ·assumption
 have e : l.take (i + 1) = l.take i ++ [l.getD i Fx.nil] := by
  rw [List.take_add_one]
  simp [List.getD, hi]
 unfold err
 rw [e, List.find?_append, hn]
 simp only [Option.none_or, List.find?_cons]
 cases a.bad (l.getD i Fx.nil) <;> rfl
theorem Wq {a : Ca} {l : List Fx} {i : Nat} (hi : i < l.length) (h : a.err (l.take i) = 0) (hb : a.bad (l.getD i Fx.nil) = true) : a.err l = (a.old (l.getD i Fx.nil).value).2 := by
 have hn : (l.take i).find? a.bad = none := by
  unfold err at h
  split at h
  ·rename_i f hf
   have := List.find?_some hf
   simp only [bad, Bool.and_eq_true, decide_eq_true_eq] at this
   exact absurd h this.2
  ·assumption
 have e : l = l.take i ++ (l.getD i Fx.nil :: l.drop (i + 1)) := by
  conv => lhs; rw [← List.take_append_drop i l, List.drop_eq_getElem_cons hi]
  simp [List.getD, hi]
 unfold err
 rw [e, List.find?_append, ← e, hn]
 simp only [Option.none_or, List.find?_cons, hb]
theorem QY {α : Type} {l : List α} {p : α → Bool} {z : α} {i : Nat} (h : i < l.length) : (l.take (i + 1)).filter p = if p (l.getD i z) = true then (l.take i).filter p ++ [l.getD i z] else (l.take i).filter p := by
 have e : l.take (i + 1) = l.take i ++ [l.getD i z] := by
  rw [List.take_add_one]
  simp [List.getD, h]
 rw [e, List.filter_append]
 split <;> rename_i hp
 ·rw [List.filter_cons_of_pos hp]; rfl
 ·rw [List.filter_cons_of_neg hp]; simp
theorem WJ {α : Type} (l : List α) (p : α → Bool) (i : Nat) : ((l.take i).filter p).length ≤ l.length := by
 have := List.length_filter_le p (l.take i)
 rw [List.length_take] at this; omega
theorem Qz {a : Ca} {l : List Fx} {i : Nat} (h : i < l.length) : a.kept (l.take (i + 1)) = if a.keep (l.getD i Fx.nil) = true then a.kept (l.take i) ++ [l.getD i Fx.nil] else a.kept (l.take i) := QY h
theorem Qa {a : Ca} {l : List Fx} {i : Nat} (h : i < l.length) : a.fresh (l.take (i + 1)) = if a.hit (l.getD i Fx.nil) = true then a.fresh (l.take i) ++ [⟨a.name, (l.getD i Fx.nil).date, (a.old (l.getD i Fx.nil).value).1⟩] else a.fresh (l.take i) := by
 unfold fresh
 rw [QY (z := Fx.nil) h]
 split <;> simp [mk']
theorem Zw {a : Ca} (l : List Fx) (i : Nat) : (a.kept (l.take i)).length ≤ l.length := WJ l _ i
theorem Jl {a : Ca} (l : List Fx) (i : Nat) : (a.fresh (l.take i)).length ≤ l.length := by
 unfold fresh; rw [List.length_map]; exact WJ l _ i
theorem Kt {a : Ca} (h : a.ok = true) {x : List UInt8} (hx : errR x = 0) (h0 : (a.old x).2 = 0) : errR (a.old x).1 = 0 ∧ qv (a.old x).1 = qv a.ratio * qv x + qv a.extra := by
 unfold ok at h
 simp only [Bool.and_eq_true, decide_eq_true_eq] at h
 obtain ⟨_, _, _, h1, _, h2⟩ := h
 unfold old at h0 ⊢
 split at h0
 ·rename_i g; exact absurd h0 g
 ·rename_i g
  rw [if_neg g]
  have g : (mulR a.ratio x).2 = 0 := Classical.not_not.1 g
  obtain ⟨k1, k2⟩ := zcx h1 hx g
  obtain ⟨k3, k4⟩ := zcy k1 h2 h0
  exact ⟨k3, by rw [k4, k2]⟩
theorem Ux {a : Ca} {l : List Fx} (h : a.err l = 0) : ∀ f ∈ l, a.hit f = true → (a.old f.value).2 = 0 := by
 intro f hf hh
 unfold err at h
 split at h
 ·rename_i g hg
  have := List.find?_some hg
  simp only [bad, Bool.and_eq_true, decide_eq_true_eq] at this
  exact absurd h this.2
 ·rename_i hn
  rw [List.find?_eq_none] at hn
  have := hn f hf
  simpa [bad, hh] using this
theorem Z7 {a : Ca} {f : List Fx} {c : List Ch} (h : a.ok = true) (he : errE f c = 0) (h0 : a.err f = 0) : (∀ x ∈ a.fresh f, okF x = true ∧ x.name = a.name ∧ a.date ≤ x.date) ∧ (a.fresh f).Pairwise (fun x y => cmpF x y < 0) := by
 obtain ⟨h1, h2, h3, h4, h5⟩ := j3.1 he
 rw [List.all_eq_true] at h2
 have hp := uO Zm h4
 constructor
 ·intro x hx
  unfold fresh at hx
  obtain ⟨y, hy, rfl⟩ := List.mem_map.1 hx
  obtain ⟨hy1, hy2⟩ := List.mem_filter.1 hy
  have hok := h2 y hy1
  unfold okF at hok ⊢
  simp only [Bool.and_eq_true, decide_eq_true_eq] at hok ⊢
  have hh := hy2
  unfold hit at hh
  simp only [Bool.and_eq_true, decide_eq_true_eq] at hh
  refine ⟨⟨⟨?_, hok.1.2⟩, (Kt h hok.2 (Ux h0 y hy1 hy2)).1⟩, rfl, hh.2⟩
  unfold ok at h
  simp only [Bool.and_eq_true, decide_eq_true_eq] at h
  exact h.1
 ·unfold fresh
  rw [List.pairwise_map]
  have hq : ((f.filter a.hit).Pairwise fun a b => cmpF a b < 0) := hp.filter _
  refine List.Pairwise.imp_of_mem ?_ hq
  intro x y hx hy hlt
  have hx := (List.mem_filter.1 hx).2
  have hy := (List.mem_filter.1 hy).2
  unfold hit at hx hy
  simp only [Bool.and_eq_true, decide_eq_true_eq] at hx hy
  rw [wu] at hlt ⊢
  rw [hx.1, hy.1, kB] at hlt
  rcases hlt with hlt | hlt
  ·cases hlt
  ·exact .inr ⟨rfl, hlt.2⟩
theorem Xl {a : Ca} {f : List Fx} {c : List Ch} (he : errE f c = 0) : (∀ x ∈ a.kept f, okF x = true ∧ (x.name ≠ a.name ∨ x.date < a.date)) ∧ (a.kept f).Pairwise (fun x y => cmpF x y < 0) := by
 obtain ⟨h1, h2, h3, h4, h5⟩ := j3.1 he
 rw [List.all_eq_true] at h2
 refine ⟨fun x hx => ?_, (uO Zm h4).filter _⟩
 obtain ⟨hy1, hy2⟩ := List.mem_filter.1 hx
 refine ⟨h2 x hy1, ?_⟩
 unfold keep at hy2
 simpa using hy2
theorem Q9 {α : Type} {c : α → α → Int} {x : α} : ∀ {l m : List α}, (∀ w ∈ l, c w x < 0) → (∀ w ∈ m, ¬ c w x < 0 ∧ c w x ≠ 0) → wk c x (l ++ m) = l ++ x :: m
 | [], [], _, _ => rfl
 | [], w :: m, _, h => by
  obtain ⟨h1, h2⟩ := h w (by simp)
  simp only [List.nil_append, wk]
  rw [if_neg h1, if_neg h2]
 | a :: l, m, h1, h2 => by
  simp only [List.cons_append, wk]
  rw [if_pos (h1 a (by simp)), Q9 (fun w hw => h1 w (by simp [hw])) h2]
theorem QR {a : Ca} {l : List Fx} : a.at_ l ≤ l.length := List.findIdx_le_length
theorem zbz {a : Ca} {l : List Fx} (hp : l.Pairwise fun x y => cmpF x y < 0) : (∀ w ∈ l.take (a.at_ l), Op.bytesLess a.name w.name = false) ∧ (∀ w ∈ l.drop (a.at_ l), Op.bytesLess a.name w.name = true) := by
 constructor
 ·intro w hw
  obtain ⟨j, hj, rfl⟩ := List.getElem_of_mem hw
  rw [List.length_take] at hj
  have : (l.take (a.at_ l))[j]'(by rw [List.length_take]; exact hj) = l[j]'(by omega) := by simp
  rw [this]
  have := List.not_of_lt_findIdx (p := fun f : Fx => Op.bytesLess a.name f.name) (xs := l) (i := j) (by unfold at_ at hj; omega)
  simpa using this
 ·intro w hw
  obtain ⟨j, hj, rfl⟩ := List.getElem_of_mem hw
  rw [List.length_drop] at hj
  rw [List.getElem_drop]
  have h0 : a.at_ l < l.length := by omega
  have h1 : Op.bytesLess a.name (l[a.at_ l]).name = true := List.findIdx_getElem (p := fun f : Fx => Op.bytesLess a.name f.name) (w := h0)
  rcases Nat.eq_zero_or_pos j with rfl | hpos
  ·exact h1
  ·have := List.pairwise_iff_getElem.1 hp (a.at_ l) (a.at_ l + j) (by omega) (by omega) (by omega)
   rw [wu] at this
   rcases this with h2 | ⟨h2, _⟩
   ·exact kD h1 h2
   ·rw [← h2]; exact h1
theorem puts {a : Ca} {f : List Fx} {c : List Ch} (h : a.ok = true) (he : errE f c = 0) (h0 : a.err f = 0) (hlen : (a.kept f).length + (a.fresh f).length ≤ 1000) :
  ∀ k, k < (a.fresh f).length → putF (a.join (a.kept f) ((a.fresh f).take k)) c ((a.fresh f).getD k Fx.nil) = ((a.join (a.kept f) ((a.fresh f).take (k + 1)), c), 0) ∧ errE (a.join (a.kept f) ((a.fresh f).take k)) c = 0 := by
 obtain ⟨h1, h2, h3, h4, h5⟩ := j3.1 he
 obtain ⟨f1, f2⟩ := Z7 h he h0
 obtain ⟨k1, k2⟩ := Xl (a := a) he
 obtain ⟨g1, g2⟩ := zbz (a := a) k2
 have hlo : ∀ w ∈ (a.kept f).take (a.at_ (a.kept f)), ∀ x ∈ a.fresh f, cmpF w x < 0 := by
  intro w hw x hx
  obtain ⟨_, e1, e2⟩ := f1 x hx
  have hb := g1 w hw
  rw [wu, e1]
  rcases JH w.name a.name with ht | ht | ht
  ·exact .inl ht
  ·right
   refine ⟨ht, ?_⟩
   rcases (k1 w (List.mem_of_mem_take hw)).2 with h6 | h6
   ·exact absurd ht h6
   ·omega
  ·rw [ht] at hb; cases hb
 have hhi : ∀ w ∈ (a.kept f).drop (a.at_ (a.kept f)), ∀ x ∈ a.fresh f, cmpF x w < 0 := by
  intro w hw x hx
  obtain ⟨_, e1, e2⟩ := f1 x hx
  rw [wu, e1]
  exact .inl (g2 w hw)
 have hall : ∀ k, k ≤ (a.fresh f).length → errE (a.join (a.kept f) ((a.fresh f).take k)) c = 0 := by
  intro k hk
  have hjl : (a.join (a.kept f) ((a.fresh f).take k)).length = (a.kept f).length + k := by
   have := QR (a := a) (l := a.kept f)
   unfold join
   simp only [List.length_append, List.length_take, List.length_drop]
   omega
  refine j3.2 ⟨by omega, ?_, h3, zau zao ?_, h5⟩
  ·rw [List.all_eq_true]
   intro w hw
   unfold join at hw
   simp only [List.mem_append] at hw
   rcases hw with (hw | hw) | hw
   ·exact (k1 w (List.mem_of_mem_take hw)).1
   ·exact (f1 w (List.mem_of_mem_take hw)).1
   ·exact (k1 w (List.mem_of_mem_drop hw)).1
  ·unfold join
   rw [List.pairwise_append]
   refine ⟨?_, k2.sublist (List.drop_sublist _ _), ?_⟩
   ·rw [List.pairwise_append]
    exact ⟨k2.sublist (List.take_sublist _ _), f2.sublist (List.take_sublist _ _), fun w hw x hx => hlo w hw x (List.mem_of_mem_take hx)⟩
   ·intro w hw x hx
    rcases List.mem_append.1 hw with hw | hw
    ·have e : a.kept f = (a.kept f).take (a.at_ (a.kept f)) ++ (a.kept f).drop (a.at_ (a.kept f)) := (List.take_append_drop _ _).symm
     rw [e, List.pairwise_append] at k2
     exact k2.2.2 w hw x hx
    ·exact hhi x hx w (List.mem_of_mem_take hw)
 intro k hk
 have hmem : (a.fresh f).getD k Fx.nil ∈ a.fresh f := by simp [List.getD, hk]
 have hplace : wk cmpF ((a.fresh f).getD k Fx.nil) (a.join (a.kept f) ((a.fresh f).take k)) = a.join (a.kept f) ((a.fresh f).take (k + 1)) := by
  unfold join
  rw [Q9]
  ·have : (a.fresh f).take (k + 1) = (a.fresh f).take k ++ [(a.fresh f).getD k Fx.nil] := by
    rw [List.take_add_one]; simp [List.getD, hk]
   rw [this]; simp
  ·intro w hw
   rcases List.mem_append.1 hw with hw | hw
   ·exact hlo w hw _ hmem
   ·obtain ⟨j, hj, rfl⟩ := List.getElem_of_mem hw
    rw [List.length_take] at hj
    have := List.pairwise_iff_getElem.1 f2 j k (by omega) hk (by omega)
    simpa [List.getD, hk] using this
  ·intro w hw
   have := hhi w hw _ hmem
   exact za4 zao this
 refine ⟨?_, hall k (by omega)⟩
 have hjl : (a.join (a.kept f) ((a.fresh f).take (k + 1))).length = (a.kept f).length + (k + 1) := by
  have := QR (a := a) (l := a.kept f)
  unfold join
  simp only [List.length_append, List.length_take, List.length_drop]
  omega
 rw [zcw (hall k (by omega)) (f1 _ hmem).1 (by rw [hplace, hjl]; omega), hplace]
theorem join_nil {a : Ca} (l : List Fx) : a.join l [] = l := by unfold join; simp
end Ca
end Go.Nov
end

/- Arguments that say no less than a contract asks. -/
section
namespace Go.Sx
variable [Stat]
section
variable {P : Program}
theorem Je (a : AV) : eqA0 a a := by
 cases a <;> simp [eqA0]
 exact fun _ _ _ _ => rfl
theorem yK : ∀ l : List AV, eqL0 l l
 | [] => trivial
 | a :: l => ⟨Je a, yK l⟩
theorem UF (a : AV) : eqA a a := by
 cases a with
 | agg l => exact yK l
 | tup l => exact yK l
 | _ => unfold eqA; exact Je _
theorem ZG : ∀ l : List AV, eqL l l
 | [] => trivial
 | a :: l => by
  unfold eqL
  split
  ·rename_i h1 h2; cases h1
  ·rename_i h1 h2; cases h1; cases h2; exact ZG l
  ·rename_i h1 h2; cases h1; cases h2; exact ⟨UF _, ZG l⟩
  ·rename_i hx; exact (hx _ _ _ _ rfl rfl).elim
end
end Go.Sx
end

/- A contract that is the callee's own run: for small functions without loops. -/
section
namespace Go.Sx
variable [Stat]
section
variable {P : Program} {Γ : Nat → Option Ctr} {fn : Func}
def inlC (P : Program) (Γ : Nat → Option Ctr) (n : Nat) (fn : Func) : Ctr where
 fresh := false
 spec args hc := match fn.body with
  | some c => (run P Γ hc.length n [.code c] (kM fn args hc)).bind fun lf => match lf with
   | .ret st => (resX P st fn.results.toList).bind fun rs => bif decide (hc.length ≤ st.heap.length) then .leaf (exp2 st.heap (List.range st.heap.length) (resV rs), expH st.heap (List.range st.heap.length)) else .fail
   | _ => .fail
  | none => .fail
theorem nodup_range' : ∀ (n s : Nat), jE (List.range' s n) = true
 | 0, _ => rfl
 | n + 1, s => by
  rw [List.range'_succ]
  simp only [jE, Bool.and_eq_true]
  refine ⟨?_, nodup_range' n (s + 1)⟩
  simp [List.contains_eq_mem, List.mem_range'_1]
theorem Yp (b : Blk) : eqB b b := by
 cases b with
 | dead => trivial
 | box l => exact ZG l
 | arr n sz g => exact ⟨rfl, rfl, fun _ _ _ _ => rfl⟩
 | arrI k n f => exact ⟨rfl, fun _ _ _ _ => rfl⟩
 | arrS n f => exact ⟨rfl, fun _ _ _ _ => rfl⟩
 | map ag sh has get pe => exact ⟨⟨rfl, .inr rfl⟩, rfl, fun _ => rfl, fun _ _ => rfl⟩
theorem Yk (h : Heap) : eqH h h := by
 induction h with
 | nil => trivial
 | cons b l ih => exact ⟨Yp b, ih⟩
theorem zf3 {g n : Nat} (hmix : P.follows .mixedOrders = true) (hΓ : ∀ g c, Γ g = some c → zd P g c) (hf : P.funcs[g]? = some fn) (hn : (fn.name == "runtime.NumGoroutine") = false) : zd P g (inlC P Γ n fn) := by
 intro args hc Q hq hfr
 simp only [inlC] at hq
 cases hb : fn.body with
 | none => rw [hb] at hq; exact hq.elim
 | some c =>
  rw [hb] at hq
  simp only [Tree.zm] at hq
  refine zee hf hb hn hfr fun O w0 σ0 hl => Safe.run hmix hΓ n (Tree.zN (fun lf h => ?_) hq)
  cases lf with
  | ret st =>
   simp only [Tree.zm] at h
   refine Tree.zN (fun rs h => ?_) h
   cases hd : decide (hc.length ≤ st.heap.length) with
   | false => rw [hd] at h; exact h.elim
   | true =>
    rw [hd] at h
    have h : Q (exp2 st.heap (List.range st.heap.length) (resV rs), expH st.heap (List.range st.heap.length)) := h
    have hd := of_decide_eq_true hd
    exact ⟨List.range st.heap.length, by rw [List.range_eq_range']; exact nodup_range' _ _, fun i hi => List.mem_range.1 hi, fun j hj => by rw [List.getElem?_range (by omega)], fun h => (by cases h), _, _, LeA.refl _, Yk _, by simp [expH], h⟩
  | _ => exact h.elim
end
end Go.Sx
end

/- Corporate actions: checks, values. -/
section
set_option maxRecDepth 100000
open Go Go.Sx Go.Proofs Go.Nov
namespace Go.Proofs.Tryz
attribute [local simp] eqKV eqA eqA0 eqH eqB eqL eqL0
noncomputable def K49 : List Go.Sx.Item := [.code (Tryz.f49.body.getD .skip)]
noncomputable def GOf0 : Nat → Option Ctr := fun f => if f = 78 then some (yk) else none
theorem Xy : ∀ g c, GOf0 g = some c → zd Tryz.prog g c := okIf uX (zp)
def iofC : Ctr := ctrP true (fun n : Nat => [.int .i64 (n : Int)]) (fun n => n ≤ 9) (fun n (r : List UInt8) => r = [UInt8.ofNat (48 + n)]) (fun _ (r : List UInt8) => (.str r, []))
def SOf (n : Nat) : KV := [(0, .int .i64 (n : Int)), (3, .nils), (4, .bool (decide ((n : Int) < 0)))]
theorem zfh : zd Tryz.prog 49 iofC := by
 refine ze (fn := Tryz.f49) (c := Tryz.f49.body.getD .skip) rfl rfl rfl fun n hn O w0 Q hq => ?_
 replace hq := hq _ rfl
 refine zb.run hmix Xy [0, 3, 4] 400 (T := .leaf (.loop (Prod.fst (lps K49 0)) (Prod.snd (lps K49 0)) [(0, .int .i64 n), (3, .nils), (4, .bool (decide ((↑n : Int) < 0)))] [])) (by kernel_rfl) ?_
 simp only [Tree.holds, zc, inR, lo, hi, Int.toNat_natCast]
 refine zb.loop (ι := Unit) (fun _ => SOf n) (fun _ => []) (fun _ => 0) () 0 ?_ ?_ (by kernel_rfl)
 ·exact ⟨by simp [SOf], by simp, by kernel_rfl, Nat.zero_le _⟩
 rintro ⟨⟩
 refine zb.run hmix Xy [0, 3, 4] 400 (T := .side ((10 : Int) ≠ 0) (.side (inR .i64 (-Int.tmod (↑n : Int) (10 : Int))) (.side (inR .i64 ((48 : Int) + max (Int.tmod (↑n : Int) (10 : Int)) (-Int.tmod (↑n : Int) (10 : Int)))) (.side (inR .u8 ((48 : Int) + max (Int.tmod (↑n : Int) (10 : Int)) (-Int.tmod (↑n : Int) (10 : Int)))) (.side (1 ≤ 140737488355328) (.side ((10 : Int) ≠ 0 ∧ inR .i64 (Int.tdiv (↑n : Int) (10 : Int))) (.ite (decide (Int.tdiv (↑n : Int) (10 : Int) = 0)) (.ite (decide ((↑n : Int) < 0)) (.side (0 = 0 ∧ 1 ≤ 1 ∧ 2 ≤ 140737488355328) (.ex (fun (x : List Nat × Nat) => eqL [AV.osl 0 1 0 2] [AV.osl 0 1 0 x.2] ∧ eqH [.arr 2 1 (appG 1 (zg (zf 1 [AV.int .u8 ((48 : Int) + max (Int.tmod (↑n : Int) (10 : Int)) (-Int.tmod (↑n : Int) (10 : Int)))]) 0) (zg (zf 1 [AV.int .u8 45]) 0))] [.arr x.1.length 1 (natG .u8 x.1)] ∧ 1 = 1 ∧ x.2 ≤ x.1.length ∧ x.1.length < 4611686018427387904) fun n_1 => .all (fun (x : Unit) => True) fun n_2 => .side (∀ (j : Nat), j < 2 → ∃ (b : UInt8), AV.int .u8 (↑(List.getD (List.reverse (List.take n_1.2 n_1.1) ++ List.drop n_1.2 n_1.1) (0 + j) 0) : Int) = AV.int .u8 (↑(UInt8.toNat b) : Int)) (.leaf (.ret [.str (wi 2 (zg (natG .u8 (List.reverse (List.take n_1.2 n_1.1) ++ List.drop n_1.2 n_1.1)) 0))] [.arr 1 1 (zf 1 [.int .u8 ((48 : Int) + max (Int.tmod (↑n : Int) (10 : Int)) (-Int.tmod (↑n : Int) (10 : Int)))]), .arr n_1.1.length 1 (natG .u8 (List.reverse (List.take n_1.2 n_1.1) ++ List.drop n_1.2 n_1.1)), .arr 1 1 (zf 1 [.int .u8 45])])))) (.ex (fun (x : List Nat × Nat) => eqL [AV.osl 0 1 0 1] [AV.osl 0 1 0 x.2] ∧ eqH [.arr 1 1 (zg (zf 1 [AV.int .u8 ((48 : Int) + max (Int.tmod (↑n : Int) (10 : Int)) (-Int.tmod (↑n : Int) (10 : Int)))]) 0)] [.arr x.1.length 1 (natG .u8 x.1)] ∧ 1 = 1 ∧ x.2 ≤ x.1.length ∧ x.1.length < 4611686018427387904) fun n_1 => .all (fun (x : Unit) => True) fun n_2 => .side (∀ (j : Nat), j < 1 → ∃ (b : UInt8), AV.int .u8 (↑(List.getD (List.reverse (List.take n_1.2 n_1.1) ++ List.drop n_1.2 n_1.1) (0 + j) 0) : Int) = AV.int .u8 (↑(UInt8.toNat b) : Int)) (.leaf (.ret [.str (wi 1 (zg (natG .u8 (List.reverse (List.take n_1.2 n_1.1) ++ List.drop n_1.2 n_1.1)) 0))] [.arr 1 1 (zf 1 [.int .u8 ((48 : Int) + max (Int.tmod (↑n : Int) (10 : Int)) (-Int.tmod (↑n : Int) (10 : Int)))]), .arr n_1.1.length 1 (natG .u8 (List.reverse (List.take n_1.2 n_1.1) ++ List.drop n_1.2 n_1.1))])))) (.leaf (.back 0 [(0, .int .i64 (Int.tdiv (↑n : Int) (10 : Int))), (3, .osl 1 1 0 1), (4, .bool (decide ((↑n : Int) < 0)))] [.arr 1 1 (zf 1 [.int .u8 ((48 : Int) + max (Int.tmod (↑n : Int) (10 : Int)) (-Int.tmod (↑n : Int) (10 : Int)))]), .arr 1 1 (zg (zf 1 [.int .u8 ((48 : Int) + max (Int.tmod (↑n : Int) (10 : Int)) (-Int.tmod (↑n : Int) (10 : Int)))]) 0)]))))))))) (by kernel_rfl) ?_
 simp only [Tree.holds, zc, inR, lo, hi, Int.toNat_natCast]
 have e1 : (n : Int).tmod 10 = n := by rw [Int.tmod_eq_emod_of_nonneg (by omega)]; omega
 have e2 : (n : Int).tdiv 10 = 0 := by rw [Int.tdiv_eq_ediv_of_nonneg (by omega)]; omega
 have e3 : max (n : Int) (-(n : Int)) = n := by omega
 rw [e1, e2, e3]
 refine ⟨by decide, fun _ => ⟨by omega, fun _ => ⟨by omega, fun _ => ⟨by omega, fun _ => ⟨by decide, fun _ => ⟨by decide, fun _ => ⟨fun _ => ⟨fun h => ?_, fun _ => ?_⟩, fun h => ?_⟩⟩⟩⟩⟩⟩⟩
 ·have := of_decide_eq_true h; omega
 ·refine ⟨([48 + n], 1), ⟨⟨⟨rfl, rfl, rfl, rfl⟩, trivial⟩, ⟨⟨rfl, rfl, fun j o hj ho => ?_⟩, trivial⟩, trivial, by simp, by simp⟩, ⟨(), trivial⟩, fun _ _ => ⟨fun j hj => ⟨UInt8.ofNat (48 + n), ?_⟩, fun _ => ?_⟩⟩
  ·have : j = 0 := by omega
   subst this
   have : o = 0 := by omega
   subst this
   simp [zg, zf, natG]
  ·have : j = 0 := by omega
   subst this
   have : (UInt8.ofNat (48 + n)).toNat = 48 + n := by simp; omega
   simp only [this]
   rfl
  ·refine RetR.scal hq rfl ?_
   simp only [resV, wi, zg, natG, List.range_succ, List.range_zero, List.nil_append, List.map_cons, List.map_nil]
   show AV.str [UInt8.ofNat (48 + n)] = _
   rfl
 ·simp at h
noncomputable def GOf1 : Nat → Option Ctr := fun f => if f = 49 then some (iofC) else none
theorem zcc : ∀ g c, GOf1 g = some c → zd Tryz.prog g c := okIf zfh (zp)
noncomputable def qofI : Ctr := inlC Tryz.prog GOf1 100 Tryz.f22
theorem zca : zd Tryz.prog 22 qofI := zf3 hmix zcc rfl rfl
def j9 (a : Ca) : Prop := a.name.length < 2 ^ 38 ∧ a.into.length < 2 ^ 38 ∧ a.ratio.length < 2 ^ 38 ∧ a.extra.length < 2 ^ 38
def Vs : Ctr := ctrP true (fun a : Ca => [a.av]) j9 (fun a r => r = if a.ok = true then 0 else 8) (fun _ (r : Int) => (.int .i64 r, []))
noncomputable def GCa0 : Nat → Option Ctr := fun f => if f = 22 then some (qofI) else if f = 21 then some (zer) else if f = 24 then some (uN) else if f = 23 then some (yz) else none
theorem zcp : ∀ g c, GCa0 g = some c → zd Tryz.prog g c := okIf zca (okIf zdr (okIf yT (okIf XC (zp))))
theorem VL : zd Tryz.prog 10 Vs := by
 refine ze (fn := Tryz.f10) (c := Tryz.f10.body.getD .skip) rfl rfl rfl fun a ha O w0 Q hq => ?_
 obtain ⟨h1, h2, h3, h4⟩ := ha
 replace hq := hq _ rfl
 obtain ⟨nm, io, d, rt, et⟩ := a
 refine zb.run hmix zcp [] 400 (T := .ex (fun (x : Nat) => eqL [AV.int .i64 0] [AV.int .i64 x] ∧ x ≤ 9) fun n => .all (fun (r : List UInt8) => r = [UInt8.ofNat (48 + n)]) fun n => .ex (fun (x : List UInt8 × List UInt8) => eqL [AV.str rt, AV.str n] [AV.str x.1, AV.str x.2] ∧ x.1.length < 2305843009213693952 ∧ x.2.length < 2305843009213693952) fun n => .all (fun (r : Int × Int) => r = cmpR n.1 n.2) fun n => .ex (fun (x : List UInt8) => eqL [AV.str nm] [AV.str x] ∧ x.length < 4611686018427387904) fun n_1 => .all (fun (r : Bool) => r = zD n_1) fun n_2 => .ex (fun (x : List UInt8) => (!n_2) = false → eqL [AV.str io] [AV.str x] ∧ x.length < 4611686018427387904) fun n_3 => .all (fun (x : Bool) => (!n_2) = false → x = zD n_3) fun n_4 => .ex (fun (x : List UInt8) => (bif bif bif bif bif !n_2 then true else !n_4 then true else decide (d < 0) then true else decide ((99999 : Int) < d) then true else !decide (n.2 = 0) then true else decide (n.1 ≤ 0)) = false → eqL [AV.str et] [AV.str x] ∧ x.length < 4611686018427387904) fun n_5 => .all (fun (x : Int) => (bif bif bif bif bif !n_2 then true else !n_4 then true else decide (d < 0) then true else decide ((99999 : Int) < d) then true else !decide (n.2 = 0) then true else decide (n.1 ≤ 0)) = false → x = errR n_5) fun n_6 => .ite (bif bif bif bif bif bif !n_2 then true else !n_4 then true else decide (d < 0) then true else decide ((99999 : Int) < d) then true else !decide (n.2 = 0) then true else decide (n.1 ≤ 0) then true else !decide (n_6 = 0)) (.leaf (.ret [.int .i64 8] [.box [.str nm, .str io, .int .i64 d, .str rt, .str et]])) (.leaf (.ret [.int .i64 0] [.box [.str nm, .str io, .int .i64 d, .str rt, .str et]]))) (by kernel_rfl) ?_
 simp only [Tree.holds, zc, inR, lo, hi, Int.toNat_natCast]
 have e48 : [UInt8.ofNat (48 + 0)] = [48] := rfl
 refine ⟨0, ⟨⟨⟨rfl, rfl⟩, trivial⟩, by omega⟩, ⟨_, rfl⟩, ?_⟩
 rintro _ rfl
 rw [e48]
 refine ⟨(rt, [48]), ⟨⟨rfl, rfl, trivial⟩, by show rt.length < _; simp only at h3; omega, by simp⟩, ⟨_, rfl⟩, ?_⟩
 rintro r rfl
 refine ⟨nm, ⟨⟨rfl, trivial⟩, by simp only at h1; omega⟩, ⟨_, rfl⟩, ?_⟩
 rintro _ rfl
 refine ⟨io, fun _ => ⟨⟨rfl, trivial⟩, by simp only at h2; omega⟩, ⟨_, fun _ => rfl⟩, fun b2 g2 => ?_⟩
 refine ⟨et, fun _ => ⟨⟨rfl, trivial⟩, by simp only at h4; omega⟩, ⟨_, fun _ => rfl⟩, fun b3 g3 => ?_⟩
 have key : (bif bif bif bif bif bif !zD nm then true else !b2 then true else decide (d < 0) then true else decide (99999 < d) then true else !decide ((cmpR rt [48]).2 = 0) then true else decide ((cmpR rt [48]).1 ≤ 0) then true else !decide (b3 = 0)) = !(Ca.mk nm io d rt et).ok := by
  obtain ⟨z1, z2⟩ := zbn (a := rt)
  unfold Ca.ok
  simp only
  cases hn : zD nm with
  | false => simp
  | true =>
   rw [g2 (by rw [hn]; rfl)]
   cases hi2 : zD io with
   | false => simp
   | true =>
    by_cases hd : dayB d = true
    ·have hd' := hd
     unfold dayB at hd'
     simp only [Bool.and_eq_true, decide_eq_true_eq] at hd'
     have q1 : decide (d < 0) = false := decide_eq_false (by omega)
     have q2 : decide (99999 < d) = false := decide_eq_false (by omega)
     by_cases hr : errR rt = 0
     ·obtain ⟨y1, y2⟩ := z2 hr
      by_cases hp : 0 < qv rt
      ·have y3 : (cmpR rt [48]).1 = 1 := by rw [y2, if_neg (by grind), if_pos hp]
       rw [g3 (by rw [hn, g2 (by rw [hn]; rfl), hi2, q1, q2, y1, y3]; rfl), hd, y1, y3, q1, q2]
       simp [hr, hp]
      ·have y3 : (cmpR rt [48]).1 ≤ 0 := by rw [y2, if_neg hp]; split <;> decide
       rw [decide_eq_true y3]
       simp [hp]
     ·rw [decide_eq_false (z1 hr)]
      simp [hr]
    ·have : (decide (d < 0) || decide (99999 < d)) = true := by
      unfold dayB at hd
      simp at hd ⊢
      omega
     have hd : dayB d = false := by simpa using hd
     rw [hd]
     rw [Bool.or_eq_true] at this
     rcases this with h | h <;> simp [h]
 rw [key]
 refine ⟨fun h => ?_, fun h => ?_⟩
 ·rw [if_neg (by simpa using h)] at hq
  exact RetR.scal hq rfl rfl
 ·rw [if_pos (by simpa using h)] at hq
  exact RetR.scal hq rfl rfl
def oldC : Ctr := ctrP true (fun p : Ca × List UInt8 => [p.1.av, .str p.2]) (fun p => j9 p.1 ∧ p.2.length < 2 ^ 38) (fun p r => r = p.1.old p.2) (fun _ (r : List UInt8 × Int) => (.tup [.str r.1, .int .i64 r.2], []))
noncomputable def GCa1 : Nat → Option Ctr := fun f => if f = 34 then some (ze6) else if f = 35 then some (zej) else none
theorem zdg : ∀ g c, GCa1 g = some c → zd Tryz.prog g c := okIf zce (okIf zdl (zp))
theorem Kt : zd Tryz.prog 13 oldC := by
 refine ze (fn := Tryz.f13) (c := Tryz.f13.body.getD .skip) rfl rfl rfl fun p hp O w0 Q hq => ?_
 obtain ⟨⟨nm, io, d, rt, et⟩, x⟩ := p
 obtain ⟨⟨h1, h2, h3, h4⟩, h5⟩ := hp
 replace hq := hq _ rfl
 simp only at h1 h2 h3 h4 h5 hq
 refine zb.run hmix zdg [] 400 (T := .ex (fun (x_1 : List UInt8 × List UInt8) => eqL [AV.str rt, AV.str x] [AV.str x_1.1, AV.str x_1.2] ∧ x_1.1.length < 2305843009213693952 ∧ x_1.2.length < 2305843009213693952) fun n => .all (fun (r : List UInt8 × Int) => r = mulR n.1 n.2) fun n => .ite (!decide (n.2 = 0)) (.leaf (.ret [.str (Array.toList #[]), .int .i64 n.2] [.box [.str nm, .str io, .int .i64 d, .str rt, .str et]])) (.ex (fun (x : List UInt8 × List UInt8) => eqL [AV.str n.1, AV.str et] [AV.str x.1, AV.str x.2] ∧ x.1.length < 2305843009213693952 ∧ x.2.length < 2305843009213693952) fun n => .all (fun (r : List UInt8 × Int) => r = addR n.1 n.2) fun n => .leaf (.ret [.str n.1, .int .i64 n.2] [.box [.str nm, .str io, .int .i64 d, .str rt, .str et]]))) (by kernel_rfl) ?_
 simp only [Tree.holds, zc, inR, lo, hi, Int.toNat_natCast]
 refine ⟨(rt, x), ⟨⟨rfl, rfl, trivial⟩, by show rt.length < _; omega, by show x.length < _; omega⟩, ⟨_, rfl⟩, ?_⟩
 rintro _ rfl
 refine ⟨fun h => ?_, fun h => ?_⟩
 ·have h : (mulR rt x).2 ≠ 0 := by simpa using h
  have e : (Ca.mk nm io d rt et).old x = ([], (mulR rt x).2) := if_pos h
  rw [e] at hq
  exact RetR.scal hq rfl rfl
 ·have h : (mulR rt x).2 = 0 := by simpa using h
  have e : (Ca.mk nm io d rt et).old x = addR (mulR rt x).1 et := if_neg (by rw [h]; simp)
  rw [e] at hq
  have hl : (mulR rt x).1.length ≤ 2003 := WH rt x
  refine ⟨((mulR rt x).1, et), ⟨⟨rfl, rfl, trivial⟩, by show (mulR rt x).1.length < _; omega, by show et.length < _; omega⟩, ⟨_, rfl⟩, ?_⟩
  rintro _ rfl
  exact RetR.scal hq rfl rfl
def We : Ctr := ctrP true (fun a : Ca => [a.av]) j9 (fun a r => r = a.ok) (fun _ (r : Bool) => (.bool r, []))
noncomputable def GCa2 : Nat → Option Ctr := fun f => if f = 38 then some (yz) else if f = 39 then some (xo) else if f = 40 then some (kT) else none
theorem zcd : ∀ g c, GCa2 g = some c → zd Tryz.prog g c := okIf uU (okIf JE (okIf kj (zp)))
theorem Kw : zd Tryz.prog 17 We := by
 refine ze (fn := Tryz.f17) (c := Tryz.f17.body.getD .skip) rfl rfl rfl fun a ha O w0 Q hq => ?_
 obtain ⟨h1, h2, h3, h4⟩ := ha
 replace hq := hq _ rfl
 obtain ⟨nm, io, d, rt, et⟩ := a
 refine zb.run hmix zcd [] 400 (T := .ex (fun (x : List UInt8) => eqL [AV.str nm] [AV.str x] ∧ x.length < 4611686018427387904) fun n => .all (fun (r : Bool) => r = zD n) fun n => .ex (fun (x : List UInt8) => (!n) = false → eqL [AV.str io] [AV.str x] ∧ x.length < 4611686018427387904) fun n_1 => .all (fun (x : Bool) => (!n) = false → x = zD n_1) fun n_2 => .ex (fun (x : Int) => (bif !n then true else !n_2) = false → eqL [AV.int .i64 d] [AV.int .i64 x] ∧ True) fun n_3 => .all (fun (x : Bool) => (bif !n then true else !n_2) = false → x = dayB n_3) fun n_4 => .ite (bif bif !n then true else !n_2 then true else !n_4) (.leaf (.ret [.bool false] [.box [.str nm, .str io, .int .i64 d, .str rt, .str et]])) (.ex (fun (x : List UInt8) => eqL [AV.str rt] [AV.str x] ∧ x.length < 1099511627776) fun n => .all (fun (r : Int) => r = errR n) fun n => .ex (fun (x : List UInt8) => (!decide (n = 0)) = false → eqL [AV.str et] [AV.str x] ∧ x.length < 1099511627776) fun n_5 => .all (fun (x : Int) => (!decide (n = 0)) = false → x = errR n_5) fun n_6 => .ite (bif !decide (n = 0) then true else !decide (n_6 = 0)) (.leaf (.ret [.bool false] [.box [.str nm, .str io, .int .i64 d, .str rt, .str et]])) (.side ((!decide (rt = Array.toList #[(48 : UInt8)])) = true → (0 : Int) ≤ 0 ∧ (0 : Int) < rt.length) (.leaf (.ret [.bool (bif !decide (rt = Array.toList #[(48 : UInt8)]) then !decide ((↑(UInt8.toNat (List.getD rt 0 (0 : UInt8))) : Int) = 45) else false)] [.box [.str nm, .str io, .int .i64 d, .str rt, .str et]]))))) (by kernel_rfl) ?_
 simp only [Tree.holds, zc, inR, lo, hi, Int.toNat_natCast]
 refine ⟨nm, ⟨⟨rfl, trivial⟩, by simp only at h1; omega⟩, ⟨_, rfl⟩, ?_⟩
 rintro _ rfl
 refine ⟨io, fun _ => ⟨⟨rfl, trivial⟩, by simp only at h2; omega⟩, ⟨_, fun _ => rfl⟩, fun b2 g2 => ?_⟩
 refine ⟨d, fun _ => ⟨⟨⟨rfl, rfl⟩, trivial⟩, trivial⟩, ⟨_, fun _ => rfl⟩, fun b3 g3 => ⟨fun h => ?_, fun h => ?_⟩⟩
 ·have : (Ca.mk nm io d rt et).ok = false := by
   unfold Ca.ok
   simp only
   cases hn : zD nm with
   | false => simp
   | true =>
    have e2 := g2 (by rw [hn]; rfl)
    cases hi2 : zD io with
    | false => simp
    | true =>
     have e3 := g3 (by rw [hn, e2, hi2]; rfl)
     rw [hn, e2, hi2, e3] at h
     have : dayB d = false := by simpa using h
     simp [this]
  rw [this] at hq
  exact RetR.scal hq rfl rfl
 have hall : zD nm = true ∧ zD io = true ∧ dayB d = true := by
  cases hn : zD nm with
  | false => rw [hn] at h; simp at h
  | true =>
   have e2 := g2 (by rw [hn]; rfl)
   cases hi2 : zD io with
   | false => rw [hn, e2, hi2] at h; simp at h
   | true =>
    have e3 := g3 (by rw [hn, e2, hi2]; rfl)
    rw [hn, e2, hi2, e3] at h
    exact ⟨rfl, rfl, by simpa using h⟩
 refine ⟨rt, ⟨⟨rfl, trivial⟩, by simp only at h3; omega⟩, ⟨_, rfl⟩, ?_⟩
 rintro _ rfl
 refine ⟨et, fun _ => ⟨⟨rfl, trivial⟩, by simp only at h4; omega⟩, ⟨_, fun _ => rfl⟩, fun b4 g4 => ⟨fun h => ?_, fun h => ?_⟩⟩
 ·have : (Ca.mk nm io d rt et).ok = false := by
   unfold Ca.ok
   simp only
   by_cases hr : errR rt = 0
   ·rw [g4 (by rw [decide_eq_true hr]; rfl), decide_eq_true hr] at h
    have : errR et ≠ 0 := by simpa using h
    simp [this]
   ·simp [hr]
  rw [this] at hq
  exact RetR.scal hq rfl rfl
 ·have hr : errR rt = 0 := by
   by_cases hr : errR rt = 0
   ·exact hr
   ·rw [decide_eq_false hr] at h; simp at h
  have he : errR et = 0 := by
   rw [g4 (by rw [decide_eq_true hr]; rfl), decide_eq_true hr] at h
   simpa using h
  obtain ⟨t1, t2, t3⟩ := W7 hr
  have hpos : 0 < rt.length := List.length_pos_iff.2 t3
  refine ⟨fun _ => by omega, fun _ => ?_⟩
  have key : (bif !decide (rt = [48]) then !decide ((((rt.getD 0 0).toNat : Nat) : Int) = 45) else false) = (Ca.mk nm io d rt et).ok := by
   unfold Ca.ok
   simp only [hall.1, hall.2.1, hall.2.2, hr, he, decide_true, Bool.true_and, Bool.and_true]
   rw [Bool.eq_iff_iff, decide_eq_true_eq, zcs hr]
   have e : (((rt.getD 0 0).toNat : Nat) : Int) = 45 ↔ rt.getD 0 0 = 45 := by
    constructor
    ·intro h; exact UInt8.toNat_inj.1 (by have : (45 : UInt8).toNat = 45 := rfl; omega)
    ·intro h; rw [h]; rfl
   rw [ne_eq (rt.getD 0 0), ← e]
   clear e
   generalize (((rt.getD 0 0).toNat : Nat) : Int) = X
   by_cases h1 : rt = [48] <;> by_cases h2 : X = 45 <;> simp [h1, h2]
  rw [key]
  exact RetR.scal hq rfl rfl
noncomputable def GCa3 : Nat → Option Ctr := fun f => if f = 43 then some (za9) else if f = 44 then some (zbe) else none
theorem zc5 : ∀ g c, GCa3 g = some c → zd Tryz.prog g c := okIf Uw (okIf Uc (zp))
theorem zd4 : zd Tryz.prog 19 oldC := by
 refine ze (fn := Tryz.f19) (c := Tryz.f19.body.getD .skip) rfl rfl rfl fun p hp O w0 Q hq => ?_
 obtain ⟨⟨nm, io, d, rt, et⟩, x⟩ := p
 obtain ⟨⟨h1, h2, h3, h4⟩, h5⟩ := hp
 replace hq := hq _ rfl
 simp only at h1 h2 h3 h4 h5 hq
 refine zb.run hmix zc5 [] 400 (T := .ex (fun (x_1 : List UInt8 × List UInt8) => eqL [AV.str rt, AV.str x] [AV.str x_1.1, AV.str x_1.2] ∧ x_1.1.length < 549755813888 ∧ x_1.2.length < 549755813888) fun n => .all (fun (r : List UInt8 × Int) => r = mulR n.1 n.2) fun n => .ite (!decide (n.2 = 0)) (.leaf (.ret [.str (Array.toList #[]), .int .i64 n.2] [.box [.str nm, .str io, .int .i64 d, .str rt, .str et]])) (.ex (fun (x : List UInt8 × List UInt8) => eqL [AV.str n.1, AV.str et] [AV.str x.1, AV.str x.2] ∧ x.1.length < 549755813888 ∧ x.2.length < 549755813888) fun n => .all (fun (r : List UInt8 × Int) => r = addR n.1 n.2) fun n => .leaf (.ret [.str n.1, .int .i64 n.2] [.box [.str nm, .str io, .int .i64 d, .str rt, .str et]]))) (by kernel_rfl) ?_
 simp only [Tree.holds, zc, inR, lo, hi, Int.toNat_natCast]
 refine ⟨(rt, x), ⟨⟨rfl, rfl, trivial⟩, by show rt.length < _; omega, by show x.length < _; omega⟩, ⟨_, rfl⟩, ?_⟩
 rintro _ rfl
 refine ⟨fun h => ?_, fun h => ?_⟩
 ·have h : (mulR rt x).2 ≠ 0 := by simpa using h
  have e : (Ca.mk nm io d rt et).old x = ([], (mulR rt x).2) := if_pos h
  rw [e] at hq
  exact RetR.scal hq rfl rfl
 ·have h : (mulR rt x).2 = 0 := by simpa using h
  have e : (Ca.mk nm io d rt et).old x = addR (mulR rt x).1 et := if_neg (by rw [h]; simp)
  rw [e] at hq
  have hl : (mulR rt x).1.length ≤ 2003 := WH rt x
  refine ⟨((mulR rt x).1, et), ⟨⟨rfl, rfl, trivial⟩, by show (mulR rt x).1.length < _; omega, by show et.length < _; omega⟩, ⟨_, rfl⟩, ?_⟩
  rintro _ rfl
  exact RetR.scal hq rfl rfl
def zdz : Ctr := ctrP true (fun a : Ca => [a.av]) (fun _ => True) (fun a r => r = false → a.name.length ≤ 1000 ∧ a.into.length ≤ 1000 ∧ a.ratio.length ≤ 1000 ∧ a.extra.length ≤ 1000) (fun _ (r : Bool) => (.bool r, []))
theorem zdi : zd Tryz.prog 4 zdz := by
 refine ze (fn := Tryz.f4) (c := Tryz.f4.body.getD .skip) rfl rfl rfl fun a ha O w0 Q hq => ?_
 obtain ⟨nm, io, d, rt, et⟩ := a
 refine zb.run hmix zq [] 400 (T := .leaf (.ret [.bool (bif bif bif decide ((1000 : Int) < nm.length) then true else decide ((1000 : Int) < io.length) then true else decide ((1000 : Int) < rt.length) then true else decide ((1000 : Int) < et.length))] [.box [.str nm, .str io, .int .i64 d, .str rt, .str et]])) (by kernel_rfl) ?_
 simp only [Tree.holds, zc, inR, lo, hi, Int.toNat_natCast]
 refine RetR.scal (hq _ ?_) rfl rfl
 intro h
 by_cases g1 : 1000 < nm.length
 ·rw [decide_eq_true (show (1000 : Int) < nm.length by omega)] at h; simp at h
 by_cases g2 : 1000 < io.length
 ·rw [decide_eq_true (show (1000 : Int) < io.length by omega)] at h; simp at h
 by_cases g3 : 1000 < rt.length
 ·rw [decide_eq_true (show (1000 : Int) < rt.length by omega)] at h; simp at h
 by_cases g4 : 1000 < et.length
 ·rw [decide_eq_true (show (1000 : Int) < et.length by omega)] at h; simp at h
 exact ⟨by simp only; omega, by simp only; omega, by simp only; omega, by simp only; omega⟩
end Go.Proofs.Tryz
end

/- The library's insertion of a row, as a contract: from what its walk shows. -/
section
namespace Go.Sx
variable [Stat]
def Ww (P : Program) (g sz bytes : Nat) : Prop := ∀ (b off n c i m vb voff vc : Nat) (cur vcur : Array Value) (el vel : TypeId) (w : World), 0 < m → i < n → n ≤ c → (n + m) * bytes ≤ 140737488355328 → vb ≠ b →
 w.heap[b]? = some (.cells cur el (0, 0)) → w.heap[vb]? = some (.cells vcur vel (0, 0)) → off + c * sz ≤ cur.size → voff + m * sz ≤ vcur.size →
 (∀ (j : Nat) (v : Value), j < n * sz → cur[off + j]? = some v → v.oneCell' = true) → (∀ (j : Nat) (v : Value), j < m * sz → vcur[voff + j]? = some v → v.oneCell' = true) →
 Calls P g #[.slice (some ⟨b, off, none⟩) n c, .int .i64 i, .slice (some ⟨vb, voff, none⟩) m vc] w fun e w' => ∃ (b' o' c' : Nat) (cur' : Array Value) (el' : TypeId),
  e = .returned (.slice (some ⟨b', o', none⟩) (n + m) c') ∧ n + m ≤ c' ∧ w'.heap[b']? = some (.cells cur' el' (0, 0)) ∧ o' + c' * sz ≤ cur'.size ∧
  (∀ j, j < (n + m) * sz → cur'[o' + j]? = if j < i * sz then cur[off + j]? else if j < i * sz + m * sz then vcur[voff + (j - i * sz)]? else cur[off + (j - m * sz)]?) ∧
  (b' = b ∨ w.heap.size ≤ b') ∧ w.heap.size ≤ w'.heap.size ∧ (∀ k, k < w.heap.size → k ≠ b → w'.heap[k]? = w.heap[k]?) ∧ w'.os = w.os ∧ w'.tape = w.tape ∧ w'.output = w.output
def Wm (i m : Nat) (gl gv : Nat → Nat → AV) : Nat → Nat → AV := fun j o => if j < i then gl j o else if j < i + m then gv (j - i) o else gl (j - m) o
theorem za5 {P : Program} {g : Nat} {fn : Func} {c : Code} (hf : P.funcs[g]? = some fn) (hb : fn.body = some c) (hn : (fn.name == "runtime.NumGoroutine") = false) {sz bytes : Nat} (hsz : 0 < sz) (W : Ww P g sz bytes)
  {gl gv gt : Nat → Nat → AV} {n i m : Nat} (hm : 0 < m) (hi : i < n) (hbig : (n + m) * bytes ≤ 140737488355328) (hgt : eqG (n + m) sz (Wm i m gl gv) gt) {ctr : Ctr} (hfr : ctr.fresh = false) (hmv : ctr.wD = true) (hpi : ctr.pins = 0) {Q : AV × Heap → Prop}
  (hq : Q (.osl 0 sz 0 (n + m), [.arr (n + m) sz gt, .dead])) : qR P g ctr [.osl 0 sz 0 n, .int .i64 i, .osl 1 sz 0 m] [.arr n sz gl, .arr m sz gv] Q := by
 intro O w σ vals hg hh hr
 simp only [RepL] at hr
 obtain ⟨v0, r0, rfl, h0, v1, r1, rfl, h1, v2, r2, rfl, h2, rfl⟩ := hr
 simp only [Rep] at h0 h1 h2
 subst h1
 obtain ⟨e0, he0, hl0, a0, cap, rfl, hnc, hr0⟩ := h0
 obtain ⟨e1, he1, hl1, a1, vc, rfl, hvc, hr1⟩ := h2
 rcases hr0 with hr0 | ⟨ad, had, rfl, cur, el, hcur, hsize⟩
 ·omega
 rcases hr1 with hr1 | ⟨vd, hvd, rfl, vcur, vel, hvcur, hvsize⟩
 ·omega
 obtain ⟨hen0, hz0 | ⟨ad', cs0, el0, had', hcs0, hs0, hc0⟩⟩ := hh.blk 0 e0 _ he0 rfl
 ·omega
 rw [had] at had'; cases had'
 rw [hcur] at hcs0; cases hcs0
 obtain ⟨hen1, hz1 | ⟨vd', cs1, el1, hvd', hcs1, hs1, hc1⟩⟩ := hh.blk 1 e1 _ he1 rfl
 ·omega
 rw [hvd] at hvd'; cases hvd'
 rw [hvcur] at hcs1; cases hcs1
 have hne : vd.block ≠ ad.block := fun h => hh.inj 0 1 e0 e1 ad vd he0 he1 had hvd (by decide) h.symm
 have hmb : Mine σ ad.block := ⟨e0, List.mem_of_getElem? he0, ad, had, rfl⟩
 have hbw : ad.block < w.heap.size := hh.lt 0 e0 ad he0 had
 simp only [Nat.zero_mul, Nat.add_zero, Nat.zero_add] at hsize hvsize ⊢
 have hn' : ¬ fn.name = "runtime.NumGoroutine" := by simpa using hn
 left
 refine ⟨by simp [callFunc, hf, hn', hb], ?_⟩
 have hvfit : vd.off + m * sz ≤ vcur.size := by simpa using hs1
 refine (W ad.block ad.off n cap i m vd.block vd.off vc cur vcur el vel w hm hi hnc hbig hne hcur hvcur hsize hvfit ?_ ?_).mono ?_
 ·intro j v hj hv
  have ho : j % sz < sz := Nat.mod_lt _ hsz
  have hjn : j / sz < n := Nat.div_lt_of_lt_mul (by rw [Nat.mul_comm]; exact hj)
  obtain ⟨c, g1, g2, _⟩ := hc0 (j / sz) (j % sz) hjn ho
  have : j / sz * sz + j % sz = j := by rw [Nat.mul_comm]; exact Nat.div_add_mod j sz
  rw [this, hv] at g1
  cases g1; exact g2
 ·intro j v hj hv
  have ho : j % sz < sz := Nat.mod_lt _ hsz
  have hjn : j / sz < m := Nat.div_lt_of_lt_mul (by rw [Nat.mul_comm]; exact hj)
  obtain ⟨c, g1, g2, _⟩ := hc1 (j / sz) (j % sz) hjn ho
  have : j / sz * sz + j % sz = j := by rw [Nat.mul_comm]; exact Nat.div_add_mod j sz
  rw [this, hv] at g1
  cases g1; exact g2
 rintro e w' ⟨b', o', c', cur', el', rfl, hc', hcur', hsz', hel, hb', hws, hkeep, hos, htape, hout⟩
 refine ⟨_, rfl, .osl 0 sz 0 (n + m), [.arr (n + m) sz gt, .dead], [⟨some ⟨b', o', none⟩, n + m⟩, ⟨none, 0⟩], hq, ?_⟩
 have hlt' : b' < w'.heap.size := (Array.getElem?_eq_some_iff.1 hcur').1
 have hmine : ∀ b, Mine [⟨some ⟨b', o', none⟩, n + m⟩, ⟨none, 0⟩] b → b = b' := by
  rintro b ⟨e, he, ad2, h1, h2⟩
  simp only [List.mem_cons, List.not_mem_nil, or_false] at he
  rcases he with rfl | rfl
  ·cases h1; exact h2.symm
  ·cases h1
 have hown : ∀ b, Own O [⟨some ⟨b', o', none⟩, n + m⟩, ⟨none, 0⟩] b → O b ∨ b = b' := fun b hb => hb.imp id fun h => hmine b h
 have hx : Ext (Own O σ) w (fun b => Own O [⟨some ⟨b', o', none⟩, n + m⟩, ⟨none, 0⟩] b ∨ (ctr.fresh = true ∧ b < w.heap.size)) w' := by
  refine ⟨hos, htape, hout, hws, fun b hb hno => hkeep b hb fun h => hno (.inr (h ▸ hmb)), fun b hb => ?_⟩
  rcases hb with hb | ⟨hb, _⟩
  ·rcases hown b hb with hb | rfl
   ·exact .inl (.inl hb)
   ·rcases hb' with rfl | hb'
    ·exact .inl (.inr hmb)
    ·exact .inr hb'
  ·rw [hfr] at hb; cases hb
 refine ⟨?_, ⟨rfl, ?_, ?_, ?_⟩, ⟨fun b hb => Nat.lt_of_lt_of_le (hg.old b hb) hws, ?_, hg.stat.ext ⟨hx.os, hx.tape, hx.output, hx.size, hx.keep, fun b hb => hx.grow b (.inl hb)⟩⟩, Nat.le_refl _, ?_, ⟨hos, htape, hout, hws, fun b hb hno => hkeep b hb fun h => hno (h ▸ hmb), fun b hb => ?_⟩⟩
 ·simp only [Rep]
  exact ⟨⟨some ⟨b', o', none⟩, n + m⟩, rfl, by simp, some ⟨b', o', none⟩, c', rfl, hc', .inr ⟨⟨b', o', none⟩, rfl, by simp, cur', el', hcur', by simpa using hsz'⟩⟩
 ·intro i j e f a b he hf ha hb hij
  match i, j with
  | 0, 0 => exact absurd rfl hij
  | 0, 1 => simp at hf; subst hf; cases hb
  | 1, _ => simp at he; subst he; cases ha
  | 0, j + 2 => simp at hf
  | i + 2, _ => simp at he
 ·intro i e a he ha
  match i with
  | 0 => simp at he; subst he; cases ha; exact hlt'
  | 1 => simp at he; subst he; cases ha
  | i + 2 => simp at he
 ·intro k e b he hb
  match k with
  | 0 =>
   simp at he hb; subst he; subst hb
   refine ⟨rfl, .inr ⟨_, cur', el', rfl, hcur', ?_, fun j o hj ho => ?_⟩⟩
   ·have : (n + m) * sz ≤ c' * sz := Nat.mul_le_mul_right _ hc'
    simp only; omega
   ·have hlt := yM hj ho
    have he := hel (j * sz + o) hlt
    have hg2 := hgt j o hj ho
    simp only
    rw [he, ← hg2]
    simp only [Wm]
    by_cases h1 : j < i
    ·rw [if_pos (yM h1 ho), if_pos h1]
     obtain ⟨c, g1, g2, g3⟩ := hc0 j o (by omega) ho
     exact ⟨c, g1, g2, zj hx _ _ g3⟩
    ·have h2 : ¬ j * sz + o < i * sz := by
      have : i * sz ≤ j * sz := Nat.mul_le_mul_right _ (by omega)
      omega
     rw [if_neg h2, if_neg h1]
     have hmul : (i + m) * sz = i * sz + m * sz := Nat.add_mul _ _ _
     by_cases h3 : j < i + m
     ·have hjs : (j - i) * sz + i * sz = j * sz := by rw [← Nat.add_mul]; congr 1; omega
      have := yM (a := j - i) (b := m) (sz := sz) (by omega) ho
      rw [if_pos (by omega), if_pos h3]
      obtain ⟨c, g1, g2, g3⟩ := hc1 (j - i) o (by omega) ho
      refine ⟨c, ?_, g2, zj hx _ _ g3⟩
      rw [← g1]; congr 1; omega
     ·have h4 : (i + m) * sz ≤ j * sz := Nat.mul_le_mul_right _ (by omega)
      rw [if_neg (by omega), if_neg h3]
      obtain ⟨c, g1, g2, g3⟩ := hc0 (j - m) o (by omega) ho
      refine ⟨c, ?_, g2, zj hx _ _ g3⟩
      rw [← g1]; congr 1
      have : (j - m) * sz + m * sz = j * sz := by rw [← Nat.add_mul]; congr 1; omega
      omega
  | 1 => simp at hb; subst hb; trivial
  | k + 2 => simp at he
 ·intro k e ad2 he had2
  match k with
  | 0 =>
   simp at he; subst he; cases had2
   simp only
   rcases hb' with rfl | hb'
   ·exact hg.dis 0 e0 ad he0 had
   ·intro hO; have := hg.old _ hO; omega
  | 1 => simp at he; subst he; cases had2
  | k + 2 => simp at he
 ·rw [hmv, hpi]
  intro k e he hk
  simp only [if_true, List.drop_zero, List.mem_range] at hk
  have hlt := (List.getElem?_eq_some_iff.1 he).1
  have hl := hh.len
  simp at hl hk
  omega
 ·rcases hmine b hb with rfl
  rcases hb' with rfl | hb'
  ·exact .inl hmb
  ·exact .inr hb'
end Go.Sx
end

/- Corporate actions: the library's insertion of a row. -/
section
set_option maxRecDepth 100000
open Go Go.Sx Go.Proofs Go.Nov
namespace Go.Proofs.Tryz
attribute [local simp] eqKV eqA eqA0 eqH eqB eqL eqL0
theorem Ki : Ww Tryz.prog 16 3 40 := by
 intro b off n c i m vb voff vc cur vcur el vel w hm hi hnc hbig hne hB hV hfit hvfit h1 h2
 have hcl : ((cur.toList.drop off).take (n * 3)).length = n * 3 := by
  have : n * 3 ≤ c * 3 := Nat.mul_le_mul_right _ hnc
  simp; omega
 have hvl : ((vcur.toList.drop voff).take (m * 3)).length = m * 3 := by simp; omega
 have hcs : ∀ j v, ((cur.toList.drop off).take (n * 3))[j]? = some v → w.cell? ⟨b, off + j, none⟩ = some v := fun j v hj => by
  rw [vH] at hj
  split at hj
  ·simp only [World.cell?, hB]; simpa using hj
  ·cases hj
 have hvs : ∀ j v, ((vcur.toList.drop voff).take (m * 3))[j]? = some v → w.cell? ⟨vb, voff + j, none⟩ = some v := fun j v hj => by
  rw [vH] at hj
  split at hj
  ·simp only [World.cell?, hV]; simpa using hj
  ·cases hj
 have h1c : ∀ v ∈ (cur.toList.drop off).take (n * 3), v.oneCell' = true := fun v hv => by
  obtain ⟨j, hj⟩ := List.getElem?_of_mem hv
  rw [vH] at hj
  split at hj
  ·rename_i hlt; exact h1 j v hlt (by simpa using hj)
  ·cases hj
 have h1v : ∀ v ∈ (vcur.toList.drop voff).take (m * 3), v.oneCell' = true := fun v hv => by
  obtain ⟨j, hj⟩ := List.getElem?_of_mem hv
  rw [vH] at hj
  split at hj
  ·rename_i hlt; exact h2 j v hlt (by simpa using hj)
  ·cases hj
 have hcg : ∀ j, j < n * 3 → ((cur.toList.drop off).take (n * 3))[j]? = cur[off + j]? := fun j hj => by rw [vH, if_pos hj]; simp
 have hvg : ∀ j, j < m * 3 → ((vcur.toList.drop voff).take (m * 3))[j]? = vcur[voff + j]? := fun j hj => by rw [vH, if_pos hj]; simp
 generalize (cur.toList.drop off).take (n * 3) = cs at hcl hcs h1c hcg
 generalize (vcur.toList.drop voff).take (m * 3) = vs at hvl hvs h1v hvg
 have hin3 : i * 3 + 3 ≤ n * 3 := by have := Nat.mul_le_mul_right 3 (show i + 1 ≤ n from hi); omega
 have him : (i + m) * 3 = i * 3 + m * 3 := Nat.add_mul _ _ _
 have hnm3 : (n + m) * 3 = n * 3 + m * 3 := Nat.add_mul _ _ _
 have hdl : (cs.drop (i * 3)).length = n * 3 - i * 3 := by rw [List.length_drop, hcl]
 have hbw : b < w.heap.size := (Array.getElem?_eq_some_iff.1 hB).1
 by_cases hroom : n + m ≤ c
 ·have hcn : (n + m) * 3 ≤ c * 3 := Nat.mul_le_mul_right _ hroom
  obtain ⟨X1, hX1⟩ : ∃ X1, X1 = cur.toList.take (off + (i + m) * 3) ++ cs.drop (i * 3) ++ cur.toList.drop (off + (i + m) * 3 + (cs.drop (i * 3)).length) := ⟨_, rfl⟩
  obtain ⟨X2, hX2⟩ : ∃ X2, X2 = X1.take (off + i * 3) ++ vs ++ X1.drop (off + i * 3 + vs.length) := ⟨_, rfl⟩
  have hX1l : X1.length = cur.size := by rw [hX1]; simp only [List.length_append, List.length_take, List.length_drop, Array.length_toList, hdl, hcl]; omega
  have hX2l : X2.length = cur.size := by rw [hX2]; simp only [List.length_append, List.length_take, List.length_drop, hX1l, hvl]; omega
  have g1 : ∀ k : Nat, X1[k]? = (if k < off + (i + m) * 3 then cur.toList[k]? else if k < off + (i + m) * 3 + (cs.drop (i * 3)).length then (cs.drop (i * 3))[k - (off + (i + m) * 3)]? else cur.toList[k]?) := fun k => by rw [hX1]; exact kf (by simp only [Array.length_toList, hdl]; omega) k
  have g2 : ∀ k : Nat, X2[k]? = (if k < off + i * 3 then X1[k]? else if k < off + i * 3 + (vs).length then (vs)[k - (off + i * 3)]? else X1[k]?) := fun k => by rw [hX2]; exact kf (by rw [hX1l, hvl]; omega) k
  refine (WA b off n c i m vb voff vc cur vcur el vel cs vs w hm hi hroom (by omega) hne hB hV hfit hcl hvl hcs hvs h1c h1v X1 X2 hX1 hX2).mono ?_
  rintro e w' ⟨he, hh, hos, htape, hout⟩
  refine ⟨b, off, c, X2.toArray, el, he, hroom, ?_, by simp only [List.size_toArray, hX2l]; omega, ?_, .inl rfl, ?_, ?_, hos, htape, hout⟩
  ·rw [hh]; exact setRow_heap _ b _ _ el _ (setRow_heap w b cur _ el _ hB)
  ·intro j hj
   simp only [List.getElem?_toArray, g2, g1, hvl, hdl]
   by_cases k1 : j < i * 3
   ·rw [if_pos (by omega), if_pos (by omega), if_pos k1]; simp
   ·rw [if_neg (by omega), if_neg k1]
    by_cases k2 : j < i * 3 + m * 3
    ·rw [if_pos (by omega), if_pos k2, show off + j - (off + i * 3) = j - i * 3 by omega, hvg _ (by omega)]
    ·rw [if_neg (by omega), if_neg k2, if_neg (by omega), if_pos (by omega), List.getElem?_drop, hcg _ (by omega)]; congr 1; omega
  ·rw [hh]; simp
  ·intro k hk hkb
   rw [hh, setRow_other _ b k _ hkb, setRow_other _ b k _ hkb]
 ·have hc1 : c < n + m := by omega
  obtain ⟨G, hG⟩ : ∃ G, G = grownCap w (n + m) c 39 := ⟨_, rfl⟩
  have hGn : n + m ≤ G := by rw [hG]; exact grownCap_ge w _ _ _
  obtain ⟨zs, hz⟩ : ∃ zs : List Value, Builtin.zeroCells (Value.agg #[.string ⟨#[]⟩, .int .i64 0, .string ⟨#[]⟩]).cells (n + m - i) = zs.toArray := ⟨_, (Array.toArray_toList).symm⟩
  obtain ⟨rest, hrest⟩ : ∃ zs : List Value, Builtin.zeroCells (Value.agg #[.string ⟨#[]⟩, .int .i64 0, .string ⟨#[]⟩]).cells (G - (n + m)) = zs.toArray := ⟨_, (Array.toArray_toList).symm⟩
  have hzl : zs.length = (n + m - i) * 3 := by
   have := congrArg Array.size hz
   simpa [Builtin.zeroCells, Value.cells] using this.symm
  have hrl : rest.length = (G - (n + m)) * 3 := by
   have := congrArg Array.size hrest
   simpa [Builtin.zeroCells, Value.cells] using this.symm
  obtain ⟨ROW, hROW⟩ : ∃ ROW, ROW = cs.take (i * 3) ++ zs ++ rest := ⟨_, rfl⟩
  obtain ⟨X1, hX1⟩ : ∃ X1, X1 = ROW.take (i * 3) ++ vs ++ ROW.drop (i * 3 + vs.length) := ⟨_, rfl⟩
  obtain ⟨X2, hX2⟩ : ∃ X2, X2 = X1.take ((i + m) * 3) ++ cs.drop (i * 3) ++ X1.drop ((i + m) * 3 + (cs.drop (i * 3)).length) := ⟨_, rfl⟩
  have hsum : (n + m) * 3 + (G - (n + m)) * 3 = G * 3 := by rw [← Nat.add_mul]; congr 1; omega
  have hsum2 : i * 3 + (n + m - i) * 3 = (n + m) * 3 := by rw [← Nat.add_mul]; congr 1; omega
  have hROWl : ROW.length = G * 3 := by
   rw [hROW]; simp only [List.length_append, List.length_take, hcl, hzl, hrl]; omega
  have hX1l : X1.length = G * 3 := by rw [hX1]; simp only [List.length_append, List.length_take, List.length_drop, hROWl, hvl]; omega
  have hX2l : X2.length = G * 3 := by rw [hX2]; simp only [List.length_append, List.length_take, List.length_drop, hX1l, hdl, hcl]; omega
  have g1 : ∀ k : Nat, X1[k]? = (if k < i * 3 then ROW[k]? else if k < i * 3 + (vs).length then (vs)[k - (i * 3)]? else ROW[k]?) := fun k => by rw [hX1]; exact kf (by rw [hROWl, hvl]; omega) k
  have g2 : ∀ k : Nat, X2[k]? = (if k < (i + m) * 3 then X1[k]? else if k < (i + m) * 3 + (cs.drop (i * 3)).length then (cs.drop (i * 3))[k - ((i + m) * 3)]? else X1[k]?) := fun k => by rw [hX2]; exact kf (by rw [hX1l, hdl]; omega) k
  have g0 : ∀ k, k < i * 3 → ROW[k]? = cs[k]? := fun k hk => by
   rw [hROW, List.append_assoc, List.getElem?_append_left (by rw [List.length_take]; omega), List.getElem?_take, if_pos hk]
  refine (VQ b off n c i m vb voff vc cur vcur el vel cs vs w hm hi hnc hc1 hbig hB hV hcl hvl hcs hvs h1c h1v zs hz G hG rest hrest ROW X1 X2 hROW hX1 hX2).mono ?_
  rintro e w' ⟨he, hh, hos, htape, hout⟩
  refine ⟨w.heap.size, 0, G, X2.toArray, 39, he, hGn, ?_, by simp only [List.size_toArray, hX2l]; omega, ?_, .inr (Nat.le_refl _), ?_, ?_, hos, htape, hout⟩
  ·rw [hh]
   exact setRow_heap _ w.heap.size _ _ _ _ (setRow_heap _ w.heap.size _ _ _ _ (show ((w.heap.push _))[w.heap.size]? = some (.cells ROW.toArray 39 (0, 0)) from Array.getElem?_push_size))
  ·intro j hj
   simp only [List.getElem?_toArray, Nat.zero_add, g2, g1, hvl, hdl]
   by_cases k1 : j < i * 3
   ·rw [if_pos (by omega), if_pos k1, if_pos k1, g0 j k1, hcg j (by omega)]
   ·simp only [if_neg k1]
    by_cases k2 : j < i * 3 + m * 3
    ·rw [if_pos (by omega)]
     simp only [if_pos k2]
     exact hvg _ (by omega)
    ·simp only [if_neg k2]
     rw [if_neg (by omega), if_pos (by omega), List.getElem?_drop, hcg _ (by omega)]; congr 1; omega
  ·rw [hh, setRow_size, setRow_size]
   show _ ≤ (w.heap.push _).size
   rw [Array.size_push]; omega
  ·intro k hk hkb
   rw [hh, setRow_other _ _ k _ (by omega), setRow_other _ _ k _ (by omega)]
   show (w.heap.push _)[k]? = _
   rw [Array.getElem?_push, if_neg (by omega)]
theorem WO {l x : List Fx} {i : Nat} (hi : i ≤ l.length) : eqG (l.length + x.length) 3 (Wm i x.length (fxG l) (fxG x)) (fxG (l.take i ++ x ++ l.drop i)) := by
 intro j o hj ho
 have hlt : (l.take i).length = i := by rw [List.length_take]; omega
 have e : fxG (l.take i ++ x ++ l.drop i) j o = ((l.take i ++ x ++ l.drop i).getD j Fx.nil).cell o := rfl
 simp only [Wm]
 rw [e]
 simp only [List.getD, List.getElem?_append, List.length_append, hlt]
 by_cases h1 : j < i
 ·rw [if_pos h1, if_pos (by omega), if_pos h1, List.getElem?_take, if_pos h1]; rfl
 ·rw [if_neg h1]
  by_cases h2 : j < i + x.length
  ·rw [if_pos h2, if_pos h2, if_neg h1]; rfl
  ·rw [if_neg h2, if_neg h2, List.getElem?_drop, show i + (j - (i + x.length)) = j - x.length by omega]; rfl
def zdy : Ctr := ctrT false true (fun p : List Fx × List Fx × Nat => [.osl 0 3 0 p.1.length, .int .i64 (p.2.2 : Int), .osl 1 3 0 p.2.1.length]) (fun p => [.arr p.1.length 3 (fxG p.1), .arr p.2.1.length 3 (fxG p.2.1)]) (fun p => p.2.2 ≤ p.1.length ∧ p.1.length < 2 ^ 40 ∧ p.2.1.length < 2 ^ 40) (fun _ (_ : Unit) => True) (fun p (_ : Unit) => (.osl 0 3 0 (p.1.length + p.2.1.length), [.arr (p.1.length + p.2.1.length) 3 (fxG (p.1.take p.2.2 ++ p.2.1 ++ p.1.drop p.2.2)), .dead]))
def zb7 : Ctr := ctrT false true (fun p : List Fx × List Fx × Nat => [.osl 0 3 0 p.1.length, .int .i64 (p.2.2 : Int), .osl 1 3 0 p.2.1.length]) (fun p => [.arr p.1.length 3 (fxG p.1), .arr p.2.1.length 3 (fxG p.2.1)]) (fun p => (p.2.2 = p.1.length ∨ p.2.1 = []) ∧ p.2.2 ≤ p.1.length ∧ p.1.length < 2 ^ 40 ∧ p.2.1.length < 2 ^ 40) (fun _ (_ : Unit) => True) (fun p (_ : Unit) => (.osl 0 3 0 (p.1.length + p.2.1.length), [.arr (p.1.length + p.2.1.length) 3 (fxG (p.1.take p.2.2 ++ p.2.1 ++ p.1.drop p.2.2)), .dead]))
theorem Va : zd Tryz.prog 16 zb7 := by
 refine vS (fn := Tryz.f16) (c := Tryz.f16.body.getD .skip) rfl rfl rfl (fun h => by cases h) fun p hp O w0 σ0 Q hl0 hq => ?_
 obtain ⟨l, x, i⟩ := p
 obtain ⟨h0, h1, h2, h3⟩ := hp
 replace hq := hq () trivial
 simp only at hq h0 h1 h2 h3
 refine zb.run hmix zq [] 400 (T := .side ((0 : Int) ≤ i ∧ (↑i : Int) ≤ l.length) (.ite (decide ((↑x.length : Int) = 0)) (.leaf (.ret [.osl 0 3 0 l.length] [.arr l.length 3 (fxG l), .arr x.length 3 (fxG x)])) (.ite (decide ((↑i : Int) = l.length)) (.side (0 = 0 ∧ l.length ≤ l.length ∧ (l.length + x.length) * 40 ≤ 140737488355328) (.leaf (.ret [.osl 0 3 0 (l.length + x.length)] [.arr (l.length + x.length) 3 (appG l.length (fxG l) (zg (fxG x) 0)), .arr x.length 3 (fxG x)]))) (.side (inR .i64 ((↑l.length : Int) + x.length)) .fail)))) (by kernel_rfl) ?_
 simp only [Tree.holds, zc]
 have fin : ∀ (h : Heap) (g : Nat → Nat → AV) (m : Nat), h = [.arr (l.length + x.length) 3 g, .arr m 3 (fxG x)] → eqG (l.length + x.length) 3 g (fxG (l.take i ++ x ++ l.drop i)) → RetR zb7 2 Q [.osl 0 3 0 (l.length + x.length)] h := by
  rintro h g m rfl hg
  refine RetR.keep [0, 1] rfl rfl (by show ∀ j, j < 2 → _; decide) rfl hq (by simp [resV, exp2, exp1, exp0, zA, eqA2]) ?_ rfl
  exact ⟨⟨rfl, rfl, hg⟩, trivial, trivial⟩
 refine ⟨by omega, fun _ => ⟨fun h => ?_, fun h => ⟨fun h' => ⟨⟨trivial, Nat.le_refl _, by omega⟩, fun _ => ?_⟩, fun h' => ?_⟩⟩⟩
 ·have hx : x = [] := by have := of_decide_eq_true h; exact List.length_eq_zero_iff.1 (by omega)
  subst hx
  exact fin _ (fxG l) 0 rfl (by simp [za])
 ·have e : i = l.length := by have := of_decide_eq_true h'; omega
  refine fin _ _ _ rfl ?_
  have := WO (x := x) h1
  refine xa ?_ this
  intro j o hj ho
  simp only [appG, Wm, zg, Nat.zero_add, e]
  split
  ·rfl
  ·rfl
 ·rcases h0 with h0 | h0
  ·exact absurd h0 (by have := of_decide_eq_false h'; omega)
  ·subst h0; simp at h
theorem zdq : zd Tryz.prog 16 zdy := by
 intro args hc Q hq hfr
 obtain ⟨⟨l, x, i⟩, ⟨h1, h2, h3, h4, h5, h8⟩, h6, h7⟩ := hq
 simp only at h1 h2 h3 h4 h5 h7 h8
 rcases Nat.lt_or_ge i l.length with hlt | hge
 ·rcases Nat.eq_zero_or_pos x.length with hx | hx
  ·exact Va args hc Q ⟨(l, x, i), ⟨h1, h2, h3, .inr (List.length_eq_zero_iff.1 hx), h4, h5, h8⟩, h6, h7⟩ hfr
  ·exact qR.le h1 (qR.leH h2 h3 (za5 (fn := Tryz.f16) (c := Tryz.f16.body.getD .skip) rfl rfl rfl (by decide) Ki hx hlt (by omega) (WO h4) rfl rfl rfl (h7 () trivial)))
 ·exact Va args hc Q ⟨(l, x, i), ⟨h1, h2, h3, .inl (by show i = l.length; omega), h4, h5, h8⟩, h6, h7⟩ hfr
end Go.Proofs.Tryz
end

/- A nil slice in a box, taken for one of one's own of no elements. -/
section
namespace Go.Sx
variable [Stat]
section
variable {O : Nat → Prop} {pin : Nat} {w0 : World} {σ0 : List SE} {w : World} {σ : List SE} {P : Program} {st : St} {a : Act} {fn : Func}
theorem QA {own : Nat → Prop} {i sz : Nat} (he : σ[i]? = some ⟨none, 0⟩) : ∀ (cs : List AV) (j : Nat) (vs : List Value), cs[j]? = some .nils → RepL own w cs σ vs → RepL own w (cs.set j (.osl i sz 0 0)) σ vs
 | [], j, _, h, _ => by simp at h
 | b :: l, 0, vs, h, hr => by
  simp only [List.getElem?_cons_zero, Option.some.injEq] at h
  subst h
  simp only [RepL] at hr
  obtain ⟨v, r, rfl, h1, h2⟩ := hr
  simp only [Rep] at h1
  simp only [List.set_cons_zero, RepL]
  refine ⟨v, r, rfl, ?_, h2⟩
  rw [h1]
  simp only [Rep]
  exact ⟨⟨none, 0⟩, he, by simp, none, 0, rfl, Nat.le_refl _, .inl rfl⟩
 | b :: l, j + 1, vs, h, hr => by
  simp only [List.getElem?_cons_succ] at h
  simp only [RepL] at hr
  obtain ⟨v, r, rfl, h1, h2⟩ := hr
  simp only [List.set_cons_succ, RepL]
  exact ⟨v, r, rfl, h1, QA he l j r h h2⟩
def XP (st : St) (i j sz : Nat) (g : Nat → Nat → AV) (cs : List AV) : St := ⟨st.tmps, st.heap.set i (.box (cs.set j (.osl st.heap.length sz 0 0))) ++ [.arr 0 sz g]⟩
theorem Yy (hm : Mod O pin w0 σ0 w σ st a) {i j sz : Nat} {g : Nat → Nat → AV} {cs : List AV} (hb : st.heap[i]? = some (.box cs)) (hj : cs[j]? = some .nils) (hno : st.tmps.all zB = true) : Mod O pin w0 σ0 w (σ ++ [⟨none, 0⟩]) (XP st i j sz g cs) a := by
 obtain ⟨k1, k2, k3⟩ := Wb hm.good hm.hp sz g
 have hx := ext_nil (O := O) w σ 0
 have hlt := (List.getElem?_eq_some_iff.1 hb).1
 have hp : HRep (Own O (σ ++ [⟨none, 0⟩])) w (σ ++ [⟨none, 0⟩]) ((st.heap ++ [Blk.arr 0 sz g]).set i (Blk.box (cs.set j (.osl st.heap.length sz 0 0)))) := by
  refine JS k1 fun e he => ?_
  have h1 := k1.blk i e (.box cs) he (by rw [List.getElem?_append_left hlt]; exact hb)
  simp only [BRep] at h1 ⊢
  obtain ⟨ad, vs, el, q1, q2, q3, q4⟩ := h1
  exact ⟨ad, vs, el, q1, q2, q3, QA (by rw [← hm.hp.len]; simp) cs j vs hj q4⟩
 rw [List.set_append_left _ _ hlt] at hp
 refine ⟨k2, hp, by simp [XP, hm.size], fun u => ?_, hm.df.ext hx, hm.since.trans ⟨hx, fun _ _ _ => rfl, wo.of k3 (by simp)⟩, hm.lim⟩
 have hu := hm.tm u
 show TRep _ _ _ _ (st.tmps.getD u .undef) _
 have hn : zB (st.tmps.getD u .undef) = true := by
  by_cases hlt : u < st.tmps.length
  ·simp only [List.getD, List.getElem?_eq_getElem hlt, Option.getD_some]
   exact List.all_eq_true.1 hno _ (List.getElem_mem hlt)
  ·simp only [List.getD]
   rw [List.getElem?_eq_none (by omega)]; rfl
 generalize st.tmps.getD u .undef = x at hu hn
 cases x with
 | opt _ _ _ => simp [zB] at hn
 | _ => simp only [TRep] at hu ⊢; exact zV hx k3 _ _ (qU _) hu
theorem zb.zet {M : Option Nat} {Hs : Nat → KV → Heap → Prop} {R : List AV → Heap → Prop} {k : List Item} {kv : KV} {h : Heap} (i j sz : Nat) (g : Nat → Nat → AV) {cs : List AV} (hb : h[i]? = some (.box cs)) (hj : cs[j]? = some .nils) (hno : (pk fn.ntmps kv).all zB = true)
  (H : zO M P fn O pin w0 σ0 Hs R k (mk fn.ntmps kv (h.set i (.box (cs.set j (.osl h.length sz 0 0))) ++ [.arr 0 sz g]))) : zO M P fn O pin w0 σ0 Hs R k (mk fn.ntmps kv h) :=
 fun w σ a hm => H w _ a (Yy hm hb hj hno)
end
end Go.Sx
end

/- Expressions: depth, strings, sorts. -/
section
namespace Go.Nov
open Go.Sx
def zgp (k : Int) (r n : List UInt8) (d : Int) (l : Nat) : Bool :=
 decide (l = 0) && (if k = 1 then decide (errR r = 0) && decide (n = []) && decide (d = 0) else if k = 2 then decide (r = []) && zD n && dayB d else if k = 3 then decide (r = []) && zD n && decide (d = 0) else false)
def zgf (k : Int) (r n : List UInt8) (d : Int) (ss : List Int) : Int :=
 if zfu k = true then (if r = [] ∧ n = [] ∧ d = 0 ∧ ss = Ud k then zfb k else 0) else if zgp k r n d ss.length = true then 1 else 0
namespace Ex
mutual
def depth : Ex → Nat
 | mk _ _ _ _ s => 1 + Us s
def Us : List Ex → Nat
 | [] => 0
 | x :: l => max (depth x) (Us l)
end
mutual
def KW : Ex → Nat
 | mk _ r n _ s => r.length + n.length + ZY s
def ZY : List Ex → Nat
 | [] => 0
 | x :: l => KW x + ZY l
end
mutual
def zgo : Ex → Int
 | mk k r n d s => zgf k r n d (zel s)
def zel : List Ex → List Int
 | [] => []
 | x :: l => zgo x :: zel l
end
mutual
def thin : Ex → Prop
 | mk _ r n _ s => r.length ≤ 2 ^ 48 ∧ n.length ≤ 2 ^ 48 ∧ X9 s
def X9 : List Ex → Prop
 | [] => True
 | x :: l => thin x ∧ X9 l
end
mutual
theorem Yo : ∀ x : Ex, thin x → KW x ≤ size x * 2 ^ 49
 | mk k r n d s, h => by
  rw [thin] at h
  have := Jf s h.2.2
  rw [KW, size, Nat.add_mul]
  omega
theorem Jf : ∀ l : List Ex, X9 l → ZY l ≤ Xr l * 2 ^ 49
 | [], _ => by simp [ZY]
 | x :: l, h => by
  rw [X9] at h
  have h1 := Yo x h.1
  have h2 := Jf l h.2
  rw [ZY, Xr, Nat.add_mul]
  omega
end
end Ex
end Go.Nov
end

/- Expressions: their values. -/
section
namespace Go.Nov
open Go.Sx
structure Ev where
 v : List UInt8
 e : Int
 b : Bool
 g : Int
abbrev Ev.nil : Ev := ⟨[], 0, false, 0⟩
def zgm (k : Int) (a b : List UInt8) : List UInt8 × Int :=
 if k = 7 then (if (cmpR a b).2 ≠ 0 then ([], (cmpR a b).2) else (if (cmpR a b).1 < 0 then b else a, 0))
 else (if (cmpR b a).2 ≠ 0 then ([], (cmpR b a).2) else (if (cmpR b a).1 < 0 then b else a, 0))
def opR (k : Int) (a b : List UInt8) : List UInt8 × Int := if k = 4 then addR a b else if k = 5 then subR a b else if k = 6 then mulR a b else zgm k a b
def fixR (f : List Fx) (a : List UInt8) (d : Int) : List UInt8 × Int := if (ze0 f a d).2 = true then ((ze0 f a d).1, 0) else ([], 30)
def ze9 {α : Type} (z : α) (l0 l1 : Ev) (f : List UInt8 → List UInt8 → α × Int) : α × Int := if l0.e ≠ 0 then (z, l0.e) else if l1.e ≠ 0 then (z, l1.e) else f l0.v l1.v
def valN (f : List Fx) (day k : Int) (r n : List UInt8) (d : Int) (l : List Ev) : List UInt8 × Int :=
 if k = 1 then (r, 0) else if k = 2 then fixR f n d else if k = 3 then fixR f n day
 else if k = 9 then (if (l.getD 0 Ev.nil).g ≠ 0 then ([], (l.getD 0 Ev.nil).g) else if (l.getD 0 Ev.nil).b then ((l.getD 1 Ev.nil).v, (l.getD 1 Ev.nil).e) else ((l.getD 2 Ev.nil).v, (l.getD 2 Ev.nil).e))
 else ze9 [] (l.getD 0 Ev.nil) (l.getD 1 Ev.nil) (opR k)
def zgq (k : Int) (a b : List UInt8) : Bool × Int := if (cmpR a b).2 ≠ 0 then (false, (cmpR a b).2) else (if k = 11 then decide ((cmpR a b).1 < 0) else decide ((cmpR a b).1 = 0), 0)
def hldN (k : Int) (l : List Ev) : Bool × Int :=
 if 13 ≤ k then (if (l.getD 0 Ev.nil).g ≠ 0 then (false, (l.getD 0 Ev.nil).g) else if k = 15 then (!(l.getD 0 Ev.nil).b, 0)
  else if (l.getD 0 Ev.nil).b = decide (k = 14) then ((l.getD 0 Ev.nil).b, 0) else ((l.getD 1 Ev.nil).b, (l.getD 1 Ev.nil).g))
 else ze9 false (l.getD 0 Ev.nil) (l.getD 1 Ev.nil) (zgq k)
def evN (f : List Fx) (day k : Int) (r n : List UInt8) (d : Int) (l : List Ev) : Ev := ⟨(valN f day k r n d l).1, (valN f day k r n d l).2, (hldN k l).1, (hldN k l).2⟩
namespace Ex
mutual
def ev (f : List Fx) (day : Int) : Ex → Ev
 | mk k r n d s => evN f day k r n d (evs f day s)
def evs (f : List Fx) (day : Int) : List Ex → List Ev
 | [] => []
 | x :: l => ev f day x :: evs f day l
end
end Ex
theorem Z4 {a : List UInt8} (h : errR a = 0) : a.length ≤ 2003 := by
 have h1 := (yA h).2.2.1
 rw [← h1]
 unfold qstr wz
 have g1 := jc (decide ((qv a).num < 0)) (qv a).num.natAbs
 have g2 := jc (decide (((qv a).den : Int) < 0)) ((qv a).den : Int).natAbs
 split
 ·omega
 ·simp only [List.length_append, List.length_cons, List.length_nil]
  omega
end Go.Nov
end
