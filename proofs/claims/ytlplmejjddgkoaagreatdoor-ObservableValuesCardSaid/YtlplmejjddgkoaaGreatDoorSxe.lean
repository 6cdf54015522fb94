/- Part 5 of the proof. -/
import Derived.Test.YtlplmejjddgkoaaGreatDoorSxd
set_option linter.unusedVariables false
set_option linter.unusedSimpArgs false
set_option linter.unusedSectionVars false

/- The integers: sums, products, comparisons. -/
section
set_option maxRecDepth 100000
open Go Go.Sx Go.Proofs Go.Nov
namespace Go.Proofs.Tryz
attribute [local simp] eqKV eqA eqA0 eqH eqB eqL eqL0
noncomputable def K105 : List Go.Sx.Item := [.code (Tryz.f105.body.getD .skip)]
noncomputable def K68 : List Go.Sx.Item := [.code (Tryz.f68.body.getD .skip)]
noncomputable def K37 : List Go.Sx.Item := [.code (Tryz.f37.body.getD .skip)]
noncomputable def K39 : List Go.Sx.Item := [.code (Tryz.f39.body.getD .skip)]
noncomputable def K35 : List Go.Sx.Item := [.code (Tryz.f35.body.getD .skip)]
noncomputable def K36 : List Go.Sx.Item := [.code (Tryz.f36.body.getD .skip)]
def ze7 : Ctr := ctrP false (fun p : Bool × Nat => [.bool p.1, magS p.2]) (fun _ => True) (fun p r => r = (p.1 && decide (0 < p.2), p.2)) (fun _ (r : Bool × Nat) => (numV r.1 r.2, []))
theorem Za {x : Nat} : decide (0 < ((canon x).length : Int)) = decide (0 < x) := by
 by_cases h : x = 0
 ·subst h; simp [canon]
 ·have h1 : 0 < x := Nat.pos_of_ne_zero h
  have h2 : (canon x).length ≠ 0 := fun h2 => h (kW.1 h2)
  rw [decide_eq_true (by omega), decide_eq_true h1]
theorem RetR.numV {ctr : Ctr} {Q : AV × Heap → Prop} {h : Heap} {b : Bool} {x : Nat} (hf : ctr.fresh = false) (hq : Q (numV b x, [])) : RetR ctr 0 Q [.agg [.bool b, magS x]] h := by
 refine RetR.out0 hq (fun h => by rw [hf] at h; cases h) ?_
 simp [resV, exp2, exp1, exp0, ren0, frz1, eqA2, eqL1, eqA, eqL0, eqA0, Tryz.numV, magS, natS, za]
theorem zc6 : zc Tryz.prog 105 ze7 := by
 refine ze (fn := Tryz.f105) (c := Tryz.f105.body.getD .skip) rfl rfl rfl fun p hp O w0 Q hq => ?_
 obtain ⟨b, x⟩ := p
 replace hq := hq _ rfl
 refine zb.run hmix zo [] 400 (T := .leaf (.ret [.agg [.bool (bif b then decide ((0 : Int) < (↑(canon x).length : Int)) else false), .sl (canon x).length 1 (natG .u32 (canon x))]] [.box [.bool (bif b then decide ((0 : Int) < (↑(canon x).length : Int)) else false), .sl (canon x).length 1 (natG .u32 (canon x))]])) (by kernel_rfl) ?_
 simp only [Tree.holds, zd]
 rw [Za]
 have e : (bif b then decide (0 < x) else false) = (b && decide (0 < x)) := by cases b <;> rfl
 rw [e]
 exact RetR.numV rfl hq
def sumC : Ctr := ctrP false (fun p : (Bool × Nat) × (Bool × Nat) => [numV p.1.1 p.1.2, numV p.2.1 p.2.2]) (fun p => (canon p.1.2).length < 100000 ∧ (canon p.2.2).length < 100000)
 (fun p r => r = ((sumS p.1.1 p.1.2 p.2.1 p.2.2).1 && decide (0 < (sumS p.1.1 p.1.2 p.2.1 p.2.2).2), (sumS p.1.1 p.1.2 p.2.1 p.2.2).2)) (fun _ (r : Bool × Nat) => (numV r.1 r.2, []))
def GSu : Nat → Option Ctr := fun f => if f = 105 then some (ze7) else if f = 106 then some (Kk) else if f = 67 then some (xV) else if f = 107 then some (QU) else none
theorem zfx : ∀ g c, GSu g = some c → zc Tryz.prog g c := okIf zc6 (okIf Xp (okIf xm (okIf Zz (okNone))))
theorem zes : zc Tryz.prog 68 sumC := by
 refine ze (fn := Tryz.f68) (c := Tryz.f68.body.getD .skip) rfl rfl rfl fun p hp O w0 Q hq => ?_
 obtain ⟨⟨m, x⟩, ⟨n, y⟩⟩ := p
 obtain ⟨h1, h2⟩ := hp
 replace hq := hq _ rfl
 simp only at h1 h2 hq
 refine zb.run hmix zfx [] 400 (T := .ite (m == n) (.ex (fun (x_1 : Nat × Nat) => eqL [AV.sl (canon x).length 1 (natG .u32 (canon x)), AV.sl (canon y).length 1 (natG .u32 (canon y))] [AV.sl (canon x_1.1).length 1 (natG .u32 (canon x_1.1)), AV.sl (canon x_1.2).length 1 (natG .u32 (canon x_1.2))] ∧ List.length (canon x_1.1) < 100000 ∧ List.length (canon x_1.2) < 100000) fun n_1 => .all (fun (d : Nat) => d = n_1.1 + n_1.2) fun n_2 => .ex (fun (x : Bool × Nat) => eqL [AV.bool m, AV.sl (canon n_2).length 1 (natG .u32 (canon n_2))] [AV.bool x.1, AV.sl (canon x.2).length 1 (natG .u32 (canon x.2))] ∧ True) fun n_3 => .all (fun (r : Bool × Nat) => r = (n_3.1 && decide (0 < n_3.2), n_3.2)) fun n_4 => .leaf (.ret [.agg [.bool n_4.1, .sl (canon n_4.2).length 1 (natG .u32 (canon n_4.2))]] [.box [.bool m, .sl (canon x).length 1 (natG .u32 (canon x))], .box [.bool n, .sl (canon y).length 1 (natG .u32 (canon y))], .box [.bool n_4.1, .sl (canon n_4.2).length 1 (natG .u32 (canon n_4.2))]])) (.ex (fun (x_1 : Nat × Nat) => eqL [AV.sl (canon x).length 1 (natG .u32 (canon x)), AV.sl (canon y).length 1 (natG .u32 (canon y))] [AV.sl (canon x_1.1).length 1 (natG .u32 (canon x_1.1)), AV.sl (canon x_1.2).length 1 (natG .u32 (canon x_1.2))] ∧ fits x_1.1 ∧ fits x_1.2) fun n_1 => .all (fun (r : Int) => r = cmp3 n_1.1 n_1.2) fun n_2 => .ite (decide ((0 : Int) ≤ n_2)) (.ex (fun (x_1 : Nat × Nat) => eqL [AV.sl (canon x).length 1 (natG .u32 (canon x)), AV.sl (canon y).length 1 (natG .u32 (canon y))] [AV.sl (canon x_1.1).length 1 (natG .u32 (canon x_1.1)), AV.sl (canon x_1.2).length 1 (natG .u32 (canon x_1.2))] ∧ fits x_1.1 ∧ x_1.2 ≤ x_1.1) fun n_3 => .all (fun (d : Nat) => d = n_3.1 - n_3.2) fun n_4 => .ex (fun (x : Bool × Nat) => eqL [AV.bool m, AV.sl (canon n_4).length 1 (natG .u32 (canon n_4))] [AV.bool x.1, AV.sl (canon x.2).length 1 (natG .u32 (canon x.2))] ∧ True) fun n_5 => .all (fun (r : Bool × Nat) => r = (n_5.1 && decide (0 < n_5.2), n_5.2)) fun n_6 => .leaf (.ret [.agg [.bool n_6.1, .sl (canon n_6.2).length 1 (natG .u32 (canon n_6.2))]] [.box [.bool m, .sl (canon x).length 1 (natG .u32 (canon x))], .box [.bool n, .sl (canon y).length 1 (natG .u32 (canon y))], .box [.bool n_6.1, .sl (canon n_6.2).length 1 (natG .u32 (canon n_6.2))]])) (.ex (fun (x_1 : Nat × Nat) => eqL [AV.sl (canon y).length 1 (natG .u32 (canon y)), AV.sl (canon x).length 1 (natG .u32 (canon x))] [AV.sl (canon x_1.1).length 1 (natG .u32 (canon x_1.1)), AV.sl (canon x_1.2).length 1 (natG .u32 (canon x_1.2))] ∧ fits x_1.1 ∧ x_1.2 ≤ x_1.1) fun n_3 => .all (fun (d : Nat) => d = n_3.1 - n_3.2) fun n_4 => .ex (fun (x : Bool × Nat) => eqL [AV.bool n, AV.sl (canon n_4).length 1 (natG .u32 (canon n_4))] [AV.bool x.1, AV.sl (canon x.2).length 1 (natG .u32 (canon x.2))] ∧ True) fun n_5 => .all (fun (r : Bool × Nat) => r = (n_5.1 && decide (0 < n_5.2), n_5.2)) fun n_6 => .leaf (.ret [.agg [.bool n_6.1, .sl (canon n_6.2).length 1 (natG .u32 (canon n_6.2))]] [.box [.bool m, .sl (canon x).length 1 (natG .u32 (canon x))], .box [.bool n, .sl (canon y).length 1 (natG .u32 (canon y))], .box [.bool n_6.1, .sl (canon n_6.2).length 1 (natG .u32 (canon n_6.2))]])))) (by kernel_rfl) ?_
 simp only [Tree.holds, zd]
 have eL : ∀ a b : Nat, eqL [AV.sl (canon a).length 1 (natG .u32 (canon a)), AV.sl (canon b).length 1 (natG .u32 (canon b))] [AV.sl (canon a).length 1 (natG .u32 (canon a)), AV.sl (canon b).length 1 (natG .u32 (canon b))] := fun a b => ⟨⟨rfl, rfl, za _ _ _⟩, ⟨rfl, rfl, za _ _ _⟩, trivial⟩
 have eK : ∀ (b : Bool) (a : Nat), eqL [AV.bool b, AV.sl (canon a).length 1 (natG .u32 (canon a))] [AV.bool b, AV.sl (canon a).length 1 (natG .u32 (canon a))] := fun b a => ⟨rfl, ⟨rfl, rfl, za _ _ _⟩, trivial⟩
 have hcm : ∀ v, v = cmp3 x y → (0 ≤ v ↔ y ≤ x) := by
  rintro v rfl
  unfold cmp3
  split
  ·exact ⟨fun h => by omega, fun h => by omega⟩
  ·split
   ·exact ⟨fun h => by omega, fun h => by omega⟩
   ·exact ⟨fun h => by omega, fun h => by omega⟩
 refine ⟨fun h => ?_, fun h => ⟨(x, y), ⟨eL x y, by show (canon x).length < _; omega, by show (canon y).length < _; omega⟩, ⟨_, rfl⟩, ?_⟩⟩
 ·have h : m = n := by simpa using h
  refine ⟨(x, y), ⟨eL x y, h1, h2⟩, ⟨_, rfl⟩, ?_⟩
  rintro _ rfl
  refine ⟨(m, x + y), ⟨eK m _, trivial⟩, ⟨_, rfl⟩, ?_⟩
  rintro _ rfl
  have e : sumS m x n y = (m, x + y) := if_pos h
  rw [e] at hq
  exact RetR.numV rfl hq
 ·have h : ¬ m = n := by simpa using h
  intro v hv
  have hv := hcm v hv
  refine ⟨fun g => ?_, fun g => ?_⟩
  ·have g : y ≤ x := hv.1 (of_decide_eq_true g)
   refine ⟨(x, y), ⟨eL x y, by show (canon x).length < _; omega, g⟩, ⟨_, rfl⟩, ?_⟩
   rintro _ rfl
   refine ⟨(m, x - y), ⟨eK m _, trivial⟩, ⟨_, rfl⟩, ?_⟩
   rintro _ rfl
   have e : sumS m x n y = (m, x - y) := by rw [sumS, if_neg h, if_pos g]
   rw [e] at hq
   exact RetR.numV rfl hq
  ·have g : ¬ y ≤ x := fun h3 => of_decide_eq_false g (hv.2 h3)
   refine ⟨(y, x), ⟨eL y x, by show (canon y).length < _; omega, by show x ≤ y; omega⟩, ⟨_, rfl⟩, ?_⟩
   rintro _ rfl
   refine ⟨(n, y - x), ⟨eK n _, trivial⟩, ⟨_, rfl⟩, ?_⟩
   rintro _ rfl
   have e : sumS m x n y = (n, y - x) := by rw [sumS, if_neg h, if_neg g]
   rw [e] at hq
   exact RetR.numV rfl hq
theorem zH {x n : Nat} (h : x < B ^ n) (hn : n < 100000) : (canon x).length < 100000 := by have := zu h; omega
theorem q6 {s : List UInt8} (h : errI s = 0) : numI s < B ^ 112 := jn.2 (xo h)
theorem Km {x y : Nat} (hx : x < B ^ 112) (hy : y < B ^ 112) : x + y < B ^ 113 ∧ x * y < B ^ 224 := by
 constructor
 ·have : B ^ 113 = B ^ 112 * B := Nat.pow_succ B 112
  have hB : B = 1000000000 := rfl
  generalize B ^ 112 = p at *
  rw [this, hB]; omega
 ·have : B ^ 224 = B ^ 112 * B ^ 112 := by rw [← Nat.pow_add]
  rw [this]
  exact Nat.mul_lt_mul_of_lt_of_lt hx hy
def GAd : Nat → Option Ctr := fun f => if f = 64 then some (yZ) else if f = 68 then some (sumC) else if f = 65 then some (uQ) else if f = 66 then some (VD) else if f = 67 then some (xV) else none
theorem Je : ∀ g c, GAd g = some c → zc Tryz.prog g c := okIf QD (okIf zes (okIf Zq (okIf JN (okIf xm (okNone)))))
def addC : Ctr := ctrP true (fun p : List UInt8 × List UInt8 => [.str p.1, .str p.2]) (fun p => p.1.length < 2 ^ 62 ∧ p.2.length < 2 ^ 62) (fun p r => r = addI p.1 p.2) (fun _ r => (.tup [.str r.1, .int .i64 r.2], []))
def subC : Ctr := ctrP true (fun p : List UInt8 × List UInt8 => [.str p.1, .str p.2]) (fun p => p.1.length < 2 ^ 62 ∧ p.2.length < 2 ^ 62) (fun p r => r = subI p.1 p.2) (fun _ r => (.tup [.str r.1, .int .i64 r.2], []))
def mulC : Ctr := ctrP true (fun p : List UInt8 × List UInt8 => [.str p.1, .str p.2]) (fun p => p.1.length < 2 ^ 62 ∧ p.2.length < 2 ^ 62) (fun p r => r = mulI p.1 p.2) (fun _ r => (.tup [.str r.1, .int .i64 r.2], []))
def zea : Ctr := ctrP true (fun p : List UInt8 × List UInt8 => [.str p.1, .str p.2]) (fun p => p.1.length < 2 ^ 62 ∧ p.2.length < 2 ^ 62) (fun p r => r = wP p.1 p.2) (fun _ r => (.tup [.int .i64 r.1, .int .i64 r.2], []))
theorem zg6 : zc Tryz.prog 37 addC := by
 refine ze (fn := Tryz.f37) (c := Tryz.f37.body.getD .skip) rfl rfl rfl fun p hp O w0 Q hq => ?_
 obtain ⟨s, t⟩ := p
 obtain ⟨hs, ht⟩ := hp
 replace hq := hq _ rfl
 simp only at hs ht hq
 refine zb.run hmix Je [] 400 (T := .ex (fun (x : List UInt8 × List UInt8) => eqL [AV.str s, AV.str t] [AV.str x.1, AV.str x.2] ∧ x.1.length < 4611686018427387904 ∧ x.2.length < 4611686018427387904) fun n => .all (fun (r : Int × (Bool × Nat) × Bool × Nat) => r = if zl n.1 n.2 = 0 then ((0 : Int), (negI n.1, numI n.1), negI n.2, numI n.2) else (zl n.1 n.2, (false, 0), false, 0)) fun n => .ite (!decide (n.1 = 0)) (.leaf (.ret [.str (Array.toList #[]), .int .i64 n.1] [.box [.bool (Prod.fst (n.2.1)), .sl (List.length (canon (Prod.snd (n.2.1)))) 1 (natG .u32 (canon (Prod.snd (n.2.1))))], .box [.bool (Prod.fst (n.2.2)), .sl (List.length (canon (Prod.snd (n.2.2)))) 1 (natG .u32 (canon (Prod.snd (n.2.2))))]])) (.ex (fun (x : (Bool × Nat) × Bool × Nat) => eqL [AV.agg [AV.bool (Prod.fst (n.2.1)), AV.sl (List.length (canon (Prod.snd (n.2.1)))) 1 (natG .u32 (canon (Prod.snd (n.2.1))))], AV.agg [AV.bool (Prod.fst (n.2.2)), AV.sl (List.length (canon (Prod.snd (n.2.2)))) 1 (natG .u32 (canon (Prod.snd (n.2.2))))]] [AV.agg [AV.bool (x.1.1), AV.sl (canon x.1.2).length 1 (natG .u32 (canon x.1.2))], AV.agg [AV.bool (x.2.1), AV.sl (List.length (canon (x.2.2))) 1 (natG .u32 (canon (x.2.2)))]] ∧ List.length (canon x.1.2) < 100000 ∧ List.length (canon (x.2.2)) < 100000) fun n_1 => .all (fun (r : Bool × Nat) => r = (Prod.fst (sumS (n_1.1.1) n_1.1.2 (n_1.2.1) (n_1.2.2)) && decide (0 < Prod.snd (sumS (n_1.1.1) n_1.1.2 (n_1.2.1) (n_1.2.2))), Prod.snd (sumS (n_1.1.1) n_1.1.2 (n_1.2.1) (n_1.2.2)))) fun n_2 => .ex (fun (x : Bool × Nat) => eqL [AV.agg [AV.bool n_2.1, AV.sl (canon n_2.2).length 1 (natG .u32 (canon n_2.2))]] [AV.agg [AV.bool x.1, AV.sl (canon x.2).length 1 (natG .u32 (canon x.2))]] ∧ List.length (canon x.2) < 1000000) fun n_3 => .all (fun (r : List UInt8 × Int) => r = wr n_3.1 n_3.2) fun n_4 => .leaf (.ret [.str n_4.1, .int .i64 n_4.2] [.box [.bool (Prod.fst (n.2.1)), .sl (List.length (canon (Prod.snd (n.2.1)))) 1 (natG .u32 (canon (Prod.snd (n.2.1))))], .box [.bool (Prod.fst (n.2.2)), .sl (List.length (canon (Prod.snd (n.2.2)))) 1 (natG .u32 (canon (Prod.snd (n.2.2))))]]))) (by kernel_rfl) ?_
 simp only [Tree.holds, zd]
 refine ⟨(s, t), ⟨by simp, by omega, by omega⟩, ⟨_, rfl⟩, ?_⟩
 rintro _ rfl
 simp only
 by_cases he : zl s t = 0
 ·obtain ⟨e1, e2⟩ := zf.1 he
  obtain ⟨b1, b2⟩ := Km (q6 e1) (q6 e2)
  have c1 := zH (q6 e1) (by decide)
  have c2 := zH (q6 e2) (by decide)
  simp only [if_pos he]
  refine ⟨fun h => (by simp at h), fun _ => ?_⟩
  refine ⟨((negI s, numI s), (negI t, numI t)), ⟨⟨⟨rfl, ⟨rfl, rfl, za _ _ _⟩, trivial⟩, ⟨rfl, ⟨rfl, rfl, za _ _ _⟩, trivial⟩, trivial⟩, c1, c2⟩, ⟨_, rfl⟩, ?_⟩
  rintro _ rfl
  refine ⟨((sumS (negI s) (numI s) (negI t) (numI t)).1 && decide (0 < (sumS (negI s) (numI s) (negI t) (numI t)).2), (sumS (negI s) (numI s) (negI t) (numI t)).2), ⟨⟨⟨rfl, ⟨rfl, rfl, za _ _ _⟩, trivial⟩, trivial⟩, ?_⟩, ⟨_, rfl⟩, ?_⟩
  ·have := zH (Nat.lt_of_le_of_lt (Xd (negI s) (numI s) (negI t) (numI t)) b1) (by decide)
   show (canon (sumS (negI s) (numI s) (negI t) (numI t)).2).length < 1000000
   omega
  rintro _ rfl
  rw [KW]
  have e : addI s t = wr (sumS (negI s) (numI s) (negI t) (numI t)).1 (sumS (negI s) (numI s) (negI t) (numI t)).2 := if_pos he
  rw [e] at hq
  exact RetR.scal hq rfl (by simp [resV])
 ·simp only [if_neg he]
  refine ⟨fun _ => ?_, fun h => (by simp [he] at h)⟩
  have e : addI s t = ([], zl s t) := if_neg he
  rw [e] at hq
  exact RetR.scal hq rfl (by simp [resV])
theorem zfe : zc Tryz.prog 39 subC := by
 refine ze (fn := Tryz.f39) (c := Tryz.f39.body.getD .skip) rfl rfl rfl fun p hp O w0 Q hq => ?_
 obtain ⟨s, t⟩ := p
 obtain ⟨hs, ht⟩ := hp
 replace hq := hq _ rfl
 simp only at hs ht hq
 refine zb.run hmix Je [] 400 (T := .ex (fun (x : List UInt8 × List UInt8) => eqL [AV.str s, AV.str t] [AV.str x.1, AV.str x.2] ∧ x.1.length < 4611686018427387904 ∧ x.2.length < 4611686018427387904) fun n => .all (fun (r : Int × (Bool × Nat) × Bool × Nat) => r = if zl n.1 n.2 = 0 then ((0 : Int), (negI n.1, numI n.1), negI n.2, numI n.2) else (zl n.1 n.2, (false, 0), false, 0)) fun n => .ite (!decide (n.1 = 0)) (.leaf (.ret [.str (Array.toList #[]), .int .i64 n.1] [.box [.bool (Prod.fst (n.2.1)), .sl (List.length (canon (Prod.snd (n.2.1)))) 1 (natG .u32 (canon (Prod.snd (n.2.1))))], .box [.bool (Prod.fst (n.2.2)), .sl (List.length (canon (Prod.snd (n.2.2)))) 1 (natG .u32 (canon (Prod.snd (n.2.2))))]])) (.ex (fun (x : (Bool × Nat) × Bool × Nat) => eqL [AV.agg [AV.bool (Prod.fst (n.2.1)), AV.sl (List.length (canon (Prod.snd (n.2.1)))) 1 (natG .u32 (canon (Prod.snd (n.2.1))))], AV.agg [AV.bool (bif !Prod.fst (n.2.2) then decide ((0 : Int) < (↑(List.length (canon (Prod.snd (n.2.2)))) : Int)) else false), AV.sl (List.length (canon (Prod.snd (n.2.2)))) 1 (natG .u32 (canon (Prod.snd (n.2.2))))]] [AV.agg [AV.bool (x.1.1), AV.sl (canon x.1.2).length 1 (natG .u32 (canon x.1.2))], AV.agg [AV.bool (x.2.1), AV.sl (List.length (canon (x.2.2))) 1 (natG .u32 (canon (x.2.2)))]] ∧ List.length (canon x.1.2) < 100000 ∧ List.length (canon (x.2.2)) < 100000) fun n_1 => .all (fun (r : Bool × Nat) => r = (Prod.fst (sumS (n_1.1.1) n_1.1.2 (n_1.2.1) (n_1.2.2)) && decide (0 < Prod.snd (sumS (n_1.1.1) n_1.1.2 (n_1.2.1) (n_1.2.2))), Prod.snd (sumS (n_1.1.1) n_1.1.2 (n_1.2.1) (n_1.2.2)))) fun n_2 => .ex (fun (x : Bool × Nat) => eqL [AV.agg [AV.bool n_2.1, AV.sl (canon n_2.2).length 1 (natG .u32 (canon n_2.2))]] [AV.agg [AV.bool x.1, AV.sl (canon x.2).length 1 (natG .u32 (canon x.2))]] ∧ List.length (canon x.2) < 1000000) fun n_3 => .all (fun (r : List UInt8 × Int) => r = wr n_3.1 n_3.2) fun n_4 => .leaf (.ret [.str n_4.1, .int .i64 n_4.2] [.box [.bool (Prod.fst (n.2.1)), .sl (List.length (canon (Prod.snd (n.2.1)))) 1 (natG .u32 (canon (Prod.snd (n.2.1))))], .box [.bool (bif !Prod.fst (n.2.2) then decide ((0 : Int) < (↑(List.length (canon (Prod.snd (n.2.2)))) : Int)) else false), .sl (List.length (canon (Prod.snd (n.2.2)))) 1 (natG .u32 (canon (Prod.snd (n.2.2))))]]))) (by kernel_rfl) ?_
 simp only [Tree.holds, zd]
 refine ⟨(s, t), ⟨by simp, by omega, by omega⟩, ⟨_, rfl⟩, ?_⟩
 rintro _ rfl
 simp only
 by_cases he : zl s t = 0
 ·obtain ⟨e1, e2⟩ := zf.1 he
  obtain ⟨b1, b2⟩ := Km (q6 e1) (q6 e2)
  have c1 := zH (q6 e1) (by decide)
  have c2 := zH (q6 e2) (by decide)
  simp only [if_pos he]
  refine ⟨fun h => (by simp at h), fun _ => ?_⟩
  have eN : (bif !negI t then decide (0 < ((canon (numI t)).length : Int)) else false) = (!negI t && decide (0 < numI t)) := by rw [Za]; cases negI t <;> rfl
  rw [eN]
  refine ⟨((negI s, numI s), (!negI t && decide (0 < numI t), numI t)), ⟨⟨⟨rfl, ⟨rfl, rfl, za _ _ _⟩, trivial⟩, ⟨rfl, ⟨rfl, rfl, za _ _ _⟩, trivial⟩, trivial⟩, c1, c2⟩, ⟨_, rfl⟩, ?_⟩
  rintro _ rfl
  simp only [XB]
  refine ⟨((sumS (negI s) (numI s) (!negI t) (numI t)).1 && decide (0 < (sumS (negI s) (numI s) (!negI t) (numI t)).2), (sumS (negI s) (numI s) (!negI t) (numI t)).2), ⟨⟨⟨rfl, ⟨rfl, rfl, za _ _ _⟩, trivial⟩, trivial⟩, ?_⟩, ⟨_, rfl⟩, ?_⟩
  ·have := zH (Nat.lt_of_le_of_lt (Xd (negI s) (numI s) (!negI t) (numI t)) b1) (by decide)
   show (canon (sumS (negI s) (numI s) (!negI t) (numI t)).2).length < 1000000
   omega
  rintro _ rfl
  rw [KW]
  have e : subI s t = wr (sumS (negI s) (numI s) (!negI t) (numI t)).1 (sumS (negI s) (numI s) (!negI t) (numI t)).2 := if_pos he
  rw [e] at hq
  exact RetR.scal hq rfl (by simp [resV])
 ·simp only [if_neg he]
  refine ⟨fun _ => ?_, fun h => (by simp [he] at h)⟩
  have e : subI s t = ([], zl s t) := if_neg he
  rw [e] at hq
  exact RetR.scal hq rfl (by simp [resV])
theorem zfm : zc Tryz.prog 35 mulC := by
 refine ze (fn := Tryz.f35) (c := Tryz.f35.body.getD .skip) rfl rfl rfl fun p hp O w0 Q hq => ?_
 obtain ⟨s, t⟩ := p
 obtain ⟨hs, ht⟩ := hp
 replace hq := hq _ rfl
 simp only at hs ht hq
 refine zb.run hmix Je [] 400 (T := .ex (fun (x : List UInt8 × List UInt8) => eqL [AV.str s, AV.str t] [AV.str x.1, AV.str x.2] ∧ x.1.length < 4611686018427387904 ∧ x.2.length < 4611686018427387904) fun n => .all (fun (r : Int × (Bool × Nat) × Bool × Nat) => r = if zl n.1 n.2 = 0 then ((0 : Int), (negI n.1, numI n.1), negI n.2, numI n.2) else (zl n.1 n.2, (false, 0), false, 0)) fun n => .ite (!decide (n.1 = 0)) (.leaf (.ret [.str (Array.toList #[]), .int .i64 n.1] [.box [.bool (Prod.fst (n.2.1)), .sl (List.length (canon (Prod.snd (n.2.1)))) 1 (natG .u32 (canon (Prod.snd (n.2.1))))], .box [.bool (Prod.fst (n.2.2)), .sl (List.length (canon (Prod.snd (n.2.2)))) 1 (natG .u32 (canon (Prod.snd (n.2.2))))]])) (.ex (fun (x : Nat × Nat) => eqL [AV.sl (List.length (canon (Prod.snd (n.2.1)))) 1 (natG .u32 (canon (Prod.snd (n.2.1)))), AV.sl (List.length (canon (Prod.snd (n.2.2)))) 1 (natG .u32 (canon (Prod.snd (n.2.2))))] [AV.sl (canon x.1).length 1 (natG .u32 (canon x.1)), AV.sl (canon x.2).length 1 (natG .u32 (canon x.2))] ∧ fits x.1 ∧ fits x.2) fun n_1 => .all (fun (p : Nat) => p = n_1.1 * n_1.2) fun n_2 => .ex (fun (x : Bool × Nat) => eqL [AV.agg [AV.bool !Prod.fst (n.2.1) == Prod.fst (n.2.2), AV.sl (canon n_2).length 1 (zj (natG .u32 (padN (List.length (canon n_1.1) + List.length (canon n_1.2)) n_2)) 0)]] [AV.agg [AV.bool x.1, AV.sl (canon x.2).length 1 (natG .u32 (canon x.2))]] ∧ List.length (canon x.2) < 1000000) fun n_3 => .all (fun (r : List UInt8 × Int) => r = wr n_3.1 n_3.2) fun n_4 => .leaf (.ret [.str n_4.1, .int .i64 n_4.2] [.box [.bool (Prod.fst (n.2.1)), .sl (List.length (canon (Prod.snd (n.2.1)))) 1 (natG .u32 (canon (Prod.snd (n.2.1))))], .box [.bool (Prod.fst (n.2.2)), .sl (List.length (canon (Prod.snd (n.2.2)))) 1 (natG .u32 (canon (Prod.snd (n.2.2))))], .arr (List.length (canon n_1.1) + List.length (canon n_1.2)) 1 (natG .u32 (padN (List.length (canon n_1.1) + List.length (canon n_1.2)) n_2))]))) (by kernel_rfl) ?_
 simp only [Tree.holds, zd]
 refine ⟨(s, t), ⟨by simp, by omega, by omega⟩, ⟨_, rfl⟩, ?_⟩
 rintro _ rfl
 simp only
 by_cases he : zl s t = 0
 ·obtain ⟨e1, e2⟩ := zf.1 he
  obtain ⟨b1, b2⟩ := Km (q6 e1) (q6 e2)
  have c1 := zH (q6 e1) (by decide)
  have c2 := zH (q6 e2) (by decide)
  simp only [if_pos he]
  refine ⟨fun h => (by simp at h), fun _ => ?_⟩
  refine ⟨(numI s, numI t), ⟨⟨⟨rfl, rfl, za _ _ _⟩, ⟨rfl, rfl, za _ _ _⟩, trivial⟩, by show (canon (numI s)).length < 1000000; omega, by show (canon (numI t)).length < 1000000; omega⟩, ⟨_, rfl⟩, ?_⟩
  rintro _ rfl
  refine ⟨(negI s != negI t, numI s * numI t), ⟨⟨⟨rfl, ⟨rfl, rfl, fun j o hj ho => by simp only [zj, natG, Nat.zero_add, padN, vO hj]⟩, trivial⟩, trivial⟩, ?_⟩, ⟨_, rfl⟩, ?_⟩
  ·have := zH b2 (by decide)
   show (canon (numI s * numI t)).length < 1000000
   omega
  rintro _ rfl
  have e : mulI s t = wr (negI s != negI t) (numI s * numI t) := if_pos he
  rw [e] at hq
  exact RetR.scal hq rfl (by simp [resV])
 ·simp only [if_neg he]
  refine ⟨fun _ => ?_, fun h => (by simp [he] at h)⟩
  have e : mulI s t = ([], zl s t) := if_neg he
  rw [e] at hq
  exact RetR.scal hq rfl (by simp [resV])
theorem zca : zc Tryz.prog 36 zea := by
 refine ze (fn := Tryz.f36) (c := Tryz.f36.body.getD .skip) rfl rfl rfl fun p hp O w0 Q hq => ?_
 obtain ⟨s, t⟩ := p
 obtain ⟨hs, ht⟩ := hp
 replace hq := hq _ rfl
 simp only at hs ht hq
 refine zb.run hmix Je [] 400 (T := .ex (fun (x : List UInt8 × List UInt8) => eqL [AV.str s, AV.str t] [AV.str x.1, AV.str x.2] ∧ x.1.length < 4611686018427387904 ∧ x.2.length < 4611686018427387904) fun n => .all (fun (r : Int × (Bool × Nat) × Bool × Nat) => r = if zl n.1 n.2 = 0 then ((0 : Int), (negI n.1, numI n.1), negI n.2, numI n.2) else (zl n.1 n.2, (false, 0), false, 0)) fun n => .ite (!decide (n.1 = 0)) (.leaf (.ret [.int .i64 0, .int .i64 n.1] [.box [.bool (Prod.fst (n.2.1)), .sl (List.length (canon (Prod.snd (n.2.1)))) 1 (natG .u32 (canon (Prod.snd (n.2.1))))], .box [.bool (Prod.fst (n.2.2)), .sl (List.length (canon (Prod.snd (n.2.2)))) 1 (natG .u32 (canon (Prod.snd (n.2.2))))]])) (.ite (bif Prod.fst (n.2.1) then !Prod.fst (n.2.2) else false) (.leaf (.ret [.int .i64 (-1 : Int), .int .i64 0] [.box [.bool (Prod.fst (n.2.1)), .sl (List.length (canon (Prod.snd (n.2.1)))) 1 (natG .u32 (canon (Prod.snd (n.2.1))))], .box [.bool (Prod.fst (n.2.2)), .sl (List.length (canon (Prod.snd (n.2.2)))) 1 (natG .u32 (canon (Prod.snd (n.2.2))))]])) (.ite (bif Prod.fst (n.2.2) then !Prod.fst (n.2.1) else false) (.leaf (.ret [.int .i64 1, .int .i64 0] [.box [.bool (Prod.fst (n.2.1)), .sl (List.length (canon (Prod.snd (n.2.1)))) 1 (natG .u32 (canon (Prod.snd (n.2.1))))], .box [.bool (Prod.fst (n.2.2)), .sl (List.length (canon (Prod.snd (n.2.2)))) 1 (natG .u32 (canon (Prod.snd (n.2.2))))]])) (.ite (Prod.fst (n.2.1)) (.ex (fun (x : Nat × Nat) => eqL [AV.sl (List.length (canon (Prod.snd (n.2.2)))) 1 (natG .u32 (canon (Prod.snd (n.2.2)))), AV.sl (List.length (canon (Prod.snd (n.2.1)))) 1 (natG .u32 (canon (Prod.snd (n.2.1))))] [AV.sl (canon x.1).length 1 (natG .u32 (canon x.1)), AV.sl (canon x.2).length 1 (natG .u32 (canon x.2))] ∧ fits x.1 ∧ fits x.2) fun n_1 => .all (fun (r : Int) => r = cmp3 n_1.1 n_1.2) fun n_2 => .leaf (.ret [.int .i64 n_2, .int .i64 0] [.box [.bool (Prod.fst (n.2.1)), .sl (List.length (canon (Prod.snd (n.2.1)))) 1 (natG .u32 (canon (Prod.snd (n.2.1))))], .box [.bool (Prod.fst (n.2.2)), .sl (List.length (canon (Prod.snd (n.2.2)))) 1 (natG .u32 (canon (Prod.snd (n.2.2))))]])) (.ex (fun (x : Nat × Nat) => eqL [AV.sl (List.length (canon (Prod.snd (n.2.1)))) 1 (natG .u32 (canon (Prod.snd (n.2.1)))), AV.sl (List.length (canon (Prod.snd (n.2.2)))) 1 (natG .u32 (canon (Prod.snd (n.2.2))))] [AV.sl (canon x.1).length 1 (natG .u32 (canon x.1)), AV.sl (canon x.2).length 1 (natG .u32 (canon x.2))] ∧ fits x.1 ∧ fits x.2) fun n_1 => .all (fun (r : Int) => r = cmp3 n_1.1 n_1.2) fun n_2 => .leaf (.ret [.int .i64 n_2, .int .i64 0] [.box [.bool (Prod.fst (n.2.1)), .sl (List.length (canon (Prod.snd (n.2.1)))) 1 (natG .u32 (canon (Prod.snd (n.2.1))))], .box [.bool (Prod.fst (n.2.2)), .sl (List.length (canon (Prod.snd (n.2.2)))) 1 (natG .u32 (canon (Prod.snd (n.2.2))))]])))))) (by kernel_rfl) ?_
 simp only [Tree.holds, zd]
 refine ⟨(s, t), ⟨by simp, by omega, by omega⟩, ⟨_, rfl⟩, ?_⟩
 rintro _ rfl
 simp only
 by_cases he : zl s t = 0
 ·obtain ⟨e1, e2⟩ := zf.1 he
  obtain ⟨b1, b2⟩ := Km (q6 e1) (q6 e2)
  have c1 := zH (q6 e1) (by decide)
  have c2 := zH (q6 e2) (by decide)
  simp only [if_pos he]
  refine ⟨fun h => (by simp at h), fun _ => ?_⟩
  have e : wP s t = (cmpZ (negI s) (numI s) (negI t) (numI t), 0) := if_pos he
  rw [e] at hq
  have ec : ∀ a b : Nat, cmp3 a b = cmpN a b := fun _ _ => rfl
  simp only [cmpZ] at hq
  have f1 : fits (numI s) := by show (canon (numI s)).length < 1000000; omega
  have f2 : fits (numI t) := by show (canon (numI t)).length < 1000000; omega
  refine ⟨fun h => ?_, fun h1 => ⟨fun h => ?_, fun h2 => ⟨fun h => ⟨(numI t, numI s), ⟨⟨⟨rfl, rfl, za _ _ _⟩, ⟨rfl, rfl, za _ _ _⟩, trivial⟩, f2, f1⟩, ⟨_, rfl⟩, ?_⟩, fun h => ⟨(numI s, numI t), ⟨⟨⟨rfl, rfl, za _ _ _⟩, ⟨rfl, rfl, za _ _ _⟩, trivial⟩, f1, f2⟩, ⟨_, rfl⟩, ?_⟩⟩⟩⟩
  ·cases hm : negI s <;> cases hn : negI t <;> rw [hm, hn] at h hq <;> first | (cases h; done) | exact RetR.scal hq rfl (by simp [resV])
  ·cases hm : negI s <;> cases hn : negI t <;> rw [hm, hn] at h h1 hq <;> first | (cases h; done) | (cases h1; done) | exact RetR.scal hq rfl (by simp [resV])
  ·rintro _ rfl
   rw [ec]
   cases hm : negI s <;> cases hn : negI t <;> rw [hm, hn] at h1 h2 hq <;> rw [hm] at h <;> first | (cases h; done) | (cases h1; done) | (cases h2; done) | exact RetR.scal hq rfl (by simp [resV])
  ·rintro _ rfl
   rw [ec]
   cases hm : negI s <;> cases hn : negI t <;> rw [hm, hn] at h1 h2 hq <;> rw [hm] at h <;> first | (cases h; done) | (cases h1; done) | (cases h2; done) | exact RetR.scal hq rfl (by simp [resV])
 ·simp only [if_neg he]
  refine ⟨fun _ => ?_, fun h => (by simp [he] at h)⟩
  have e : wP s t = (0, zl s t) := if_neg he
  rw [e] at hq
  exact RetR.scal hq rfl (by simp [resV])
end Go.Proofs.Tryz
end

/- Rationals as they are written. -/
section
namespace Go.Nov
def Qx (neg : Bool) (x y : Nat) : List UInt8 :=
 if y / Nat.gcd x y = 1 then (wr neg (x / Nat.gcd x y)).1 else (wr neg (x / Nat.gcd x y)).1 ++ [47] ++ (wr false (y / Nat.gcd x y)).1
def q9 (n d : List UInt8) : List UInt8 × Int := if zl n d ≠ 0 then ([], zl n d) else if numI d = 0 then ([], 16) else (Qx (negI n != negI d) (numI n) (numI d), 0)
def zL (a b : List UInt8) : Int := if errR a = 0 then errR b else errR a
def numR (a : List UInt8) : List UInt8 := (cutR a).1
def denR (a : List UInt8) : List UInt8 := if (cutR a).2.2 then (cutR a).2.1 else [49]
def frac (z w : List UInt8 × Int) : List UInt8 × Int := if z.2 ≠ 0 ∨ w.2 ≠ 0 then ([], 14) else q9 z.1 w.1
def zq (a b : List UInt8) : Int := if zL a b ≠ 0 then zL a b else if (mulI (numR a) (denR b)).2 ≠ 0 ∨ (mulI (numR b) (denR a)).2 ≠ 0 then 14 else 0
def addR (a b : List UInt8) : List UInt8 × Int := if zq a b ≠ 0 then ([], zq a b) else frac (addI (mulI (numR a) (denR b)).1 (mulI (numR b) (denR a)).1) (mulI (denR a) (denR b))
def subR (a b : List UInt8) : List UInt8 × Int := if zq a b ≠ 0 then ([], zq a b) else frac (subI (mulI (numR a) (denR b)).1 (mulI (numR b) (denR a)).1) (mulI (denR a) (denR b))
def mulR (a b : List UInt8) : List UInt8 × Int := if zL a b ≠ 0 then ([], zL a b) else frac (mulI (numR a) (numR b)) (mulI (denR a) (denR b))
def cmpR (a b : List UInt8) : Int × Int := if zq a b ≠ 0 then (0, zq a b) else wP (mulI (numR a) (denR b)).1 (mulI (numR b) (denR a)).1
end Go.Nov
namespace Go.Nov
def dmQ (s t : List UInt8) : Nat := if negI s = true ∧ 0 < numI s % numI t then numI s / numI t + 1 else numI s / numI t
def dmM (s t : List UInt8) : Nat := if negI s = true ∧ 0 < numI s % numI t then numI t - numI s % numI t else numI s % numI t
def dmI (s t : List UInt8) : List UInt8 × List UInt8 × Int :=
 if zl s t ≠ 0 then ([], [], zl s t) else if numI t = 0 then ([], [], 16) else ((wr (negI s != negI t) (dmQ s t)).1, (wr false (dmM s t)).1, 0)
theorem UA {s : List UInt8} (h : errI s = 0) : ∃ k, k ≤ 1000 ∧ numI s < 10 ^ k := by
 obtain ⟨_, h1, _, h2⟩ := ku h
 exact ⟨_, h2, kR h1⟩
def room (x : Nat) : Prop := (dec x).length ≤ 1000
theorem room_le {x y : Nat} (h : x ≤ y) (hy : room y) : room x := by
 rcases Nat.lt_or_ge (dec y).length (dec x).length with h1 | h1
 ·have := Ten.zK h1
  omega
 ·exact Nat.le_trans h1 hy
theorem qD {s : List UInt8} (h : errI s = 0) : room (numI s) := by
 obtain ⟨k, h1, h2⟩ := UA h
 exact Nat.le_trans (vK h2) h1
theorem wg {neg : Bool} {x : Nat} (h : room x) : (wr neg x).2 = 0 := by
 unfold wr
 split
 ·rfl
 ·rw [if_neg (by have : (dec x).length ≤ 1000 := h; omega)]
theorem Wx {s t : List UInt8} (hs : errI s = 0) (ht : numI t ≠ 0) : room (dmQ s t) := by
 have h := qD hs
 unfold dmQ
 split
 ·rename_i hc
  by_cases h1 : numI t = 1
  ·rw [h1, Nat.mod_one] at hc; omega
  ·refine room_le ?_ h
   have h2 : numI s / numI t ≤ numI s / 2 := Nat.div_le_div_left (by omega) (by omega)
   have h3 : numI s ≠ 0 := fun h0 => by rw [h0, Nat.zero_mod] at hc; omega
   by_cases h4 : numI s = 1
   ·have : numI s / numI t = 0 := Nat.div_eq_of_lt (by omega)
    omega
   ·omega
 ·exact room_le (Nat.div_le_self _ _) h
theorem WD {s t : List UInt8} (ht : errI t = 0) (h0 : numI t ≠ 0) : room (dmM s t) := by
 have h := qD ht
 have hm := Nat.mod_lt (numI s) (Nat.pos_of_ne_zero h0)
 unfold dmM
 split
 ·exact room_le (Nat.sub_le _ _) h
 ·exact room_le (by omega) h
end Go.Nov
namespace Go.Nov
theorem vG : wr false 1 = ([49], 0) := by
 have h : dec 1 = [1] := by
  show Ten.canon 1 = [1]
  rw [Ten.qF (by decide)]
  exact congrArg (1 :: ·) Ten.zC
 simp [wr, h, txt, sgn, byt]
theorem uN {x : Nat} (h : room x) : (wr false x).1 = [49] ↔ x = 1 := by
 constructor
 ·intro e
  have := (ua (wg (neg := false) h)).2.1
  rw [e] at this
  exact this.symm
 ·rintro rfl
  rw [vG]
theorem zau {x : Nat} (h0 : x ≠ 0) (h : room x) : [45] ++ (wr false x).1 = (wr true x).1 := by
 unfold wr
 rw [if_neg h0, if_neg h0, if_neg (by have : (dec x).length ≤ 1000 := h; omega), if_neg (by have : (dec x).length ≤ 1000 := h; omega)]
 rfl
theorem wy {t : List UInt8} (h : errI t = 0) : t = [48] ↔ numI t = 0 := by
 constructor
 ·rintro rfl; rfl
 ·intro h0
  obtain ⟨neg, b, h1, h2, h3, h4, h5, h6⟩ := un h
  have hb : numD b = 0 := by simpa [numI, h2] using h0
  cases b with
  | nil => exact absurd rfl h5
  | cons c r =>
   have hc := h4 c (by simp)
   have e : numD (c :: r) = (c.toNat - 48) * 10 ^ r.length + numD r := by
    have := wV [c] r
    simp only [List.singleton_append] at this
    rw [this]
    simp [numD]
   rw [e] at hb
   have hc0 : c.toNat = 48 := by
    rcases Nat.eq_zero_or_pos (c.toNat - 48) with h7 | h7
    ·omega
    ·have := Nat.mul_pos h7 (Nat.pow_pos (n := r.length) (show 0 < 10 by decide))
     omega
   have hc1 : c = 48 := UInt8.toNat_inj.1 (by rw [hc0]; rfl)
   subst hc1
   have hr : r = [] := by
    cases r with
    | nil => rfl
    | cons d r =>
     have := w7 (neg := neg) (b := 48 :: d :: r) rfl (by simp)
     rw [this] at h3; cases h3
   subst hr
   cases neg with
   | true => cases h3
   | false => simpa [sgn] using h1
theorem yd {s : List UInt8} {b : Bool} {g : Nat} (hs : errI s = 0) (h0 : g ≠ 0) (hg : room g) (hd : g ∣ numI s) : dmI s (wr b g).1 = ((wr (negI s != b) (numI s / g)).1, [48], 0) := by
 obtain ⟨h1, h2, h3⟩ := ua (wg (neg := b) hg)
 have hb : negI (wr b g).1 = b := by rw [h3]; simp [h0]
 have he : zl s (wr b g).1 = 0 := zf.2 ⟨hs, h1⟩
 have hm : numI s % g = 0 := Nat.mod_eq_zero_of_dvd hd
 unfold dmI
 rw [if_neg (by rw [he]; decide), h2, if_neg h0, hb]
 have hq : dmQ s (wr b g).1 = numI s / g := by
  unfold dmQ
  rw [h2, hm, if_neg (by omega)]
 have hr : dmM s (wr b g).1 = 0 := by
  unfold dmM
  rw [h2, hm, if_neg (by omega)]
 rw [hq, hr]
 rfl
theorem uS {s t : List UInt8} (ht : errI t = 0) (h0 : numI t ≠ 0) : Nat.gcd (numI s) (numI t) ≠ 0 ∧ room (Nat.gcd (numI s) (numI t)) := by
 have hp := Nat.pos_of_ne_zero h0
 refine ⟨fun h => ?_, room_le (Nat.le_of_dvd hp (Nat.gcd_dvd_right _ _)) (qD ht)⟩
 have := Nat.eq_zero_of_gcd_eq_zero_right h
 exact h0 this
end Go.Nov
namespace Go.Nov
theorem Yu : errI [49] = 0 := rfl
theorem qp {a : List UInt8} (h : errR a = 0) : errI (numR a) = 0 ∧ errI (denR a) = 0 ∧ negI (denR a) = false ∧ numI (denR a) ≠ 0 := by
 unfold errR at h
 unfold numR denR
 cases hc : (cutR a).2.2 with
 | true =>
  rw [hc] at h
  simp only [if_true] at h ⊢
  split at h
  ·cases h
  ·rename_i h1
   simp only [not_or] at h1
   split at h
   ·cases h
   ·rename_i h2
    simp only [not_or, Classical.not_not] at h2
    refine ⟨h2.1, h2.2, by simpa using h1.2.2.1, fun h0 => ?_⟩
    exact h1.2.2.2.1 ((wy h2.2).2 h0)
 | false =>
  rw [hc] at h
  simp only [Bool.false_eq_true, if_false] at h ⊢
  have : (cutR a).1 = a := by
   unfold cutR at hc ⊢
   split at hc
   ·cases hc
   ·rename_i hn; rw [if_neg hn]
  rw [this]
  exact ⟨h, Yu, rfl, by decide⟩
theorem vw (a : List UInt8) : (numR a).length ≤ a.length := (u0 a).1
theorem jQ (a : List UInt8) : (denR a).length ≤ a.length + 1 := by
 unfold denR
 split
 ·exact Nat.le_trans (u0 a).2 (Nat.le_succ _)
 ·simp
theorem w5 {s t : List UInt8} (h : zl s t = 0) : (mulI s t).2 = 0 ∧ errI (mulI s t).1 = 0 ∨ mulI s t = ([], 14) := by
 unfold mulI
 rw [if_pos h]
 exact (QQ _ _).imp (fun h => ⟨h, (ua h).1⟩) id
theorem za5 {s t : List UInt8} (h : zl s t = 0) : (addI s t).2 = 0 ∧ errI (addI s t).1 = 0 ∨ addI s t = ([], 14) := by
 unfold addI
 rw [if_pos h]
 exact (QQ _ _).imp (fun h => ⟨h, (ua h).1⟩) id
theorem Yz {s t : List UInt8} (h : zl s t = 0) : (subI s t).2 = 0 ∧ errI (subI s t).1 = 0 ∨ subI s t = ([], 14) := by
 unfold subI
 rw [if_pos h]
 exact (QQ _ _).imp (fun h => ⟨h, (ua h).1⟩) id
end Go.Nov
namespace Go.Nov
def stp (e : Int) (f : List UInt8 → List UInt8 → List UInt8 × Int) (x y : List UInt8) : List UInt8 × Int := if e ≠ 0 then ([], e) else f x y
theorem zdd {e : Int} {f : List UInt8 → List UInt8 → List UInt8 × Int} {x y : List UInt8} (h : (f x y).1.length ≤ 1001) : (stp e f x y).1.length ≤ 1001 := by
 unfold stp
 split
 ·simp
 ·exact h
theorem zT {e : Int} (h : e ≠ 0) (f : List UInt8 → List UInt8 → List UInt8 × Int) (x y : List UInt8) : stp e f x y = ([], e) := if_pos h
theorem jI (f : List UInt8 → List UInt8 → List UInt8 × Int) (x y : List UInt8) : stp 0 f x y = f x y := if_neg (by simp)
def Zf (f : List UInt8 → List UInt8 → List UInt8 × Int) (a b : List UInt8) : List UInt8 × Int :=
 if zq a b ≠ 0 then ([], zq a b) else frac (f (mulI (numR a) (denR b)).1 (mulI (numR b) (denR a)).1) (mulI (denR a) (denR b))
section
variable {a b n m d c : List UInt8} {e : Int} (hp : (e ≠ 0 ∧ zL a b = e) ∨ (e = 0 ∧ errR a = 0 ∧ errR b = 0 ∧ n = numR a ∧ m = numR b ∧ d = denR a ∧ c = denR b))
include hp
theorem ub {f : List UInt8 → List UInt8 → List UInt8 × Int} (hf : ∀ {s t : List UInt8}, zl s t = 0 → (f s t).2 = 0 ∧ errI (f s t).1 = 0 ∨ f s t = ([], 14)) {r1 r2 r3 r4 r5 : List UInt8 × Int}
  (h1 : r1 = stp e mulI n c) (h2 : r2 = stp r1.2 mulI m d) (h3 : r3 = stp r2.2 f r1.1 r2.1) (h4 : r4 = stp r3.2 mulI d c) (h5 : r5 = stp r4.2 q9 r3.1 r4.1) : r5 = Zf f a b := by
 rcases hp with ⟨he, h2e⟩ | ⟨rfl, ha, hb, rfl, rfl, rfl, rfl⟩
 ·have hc : zq a b = e := by unfold zq; rw [if_pos (by rw [h2e]; exact he)]; exact h2e
  unfold Zf
  rw [hc, if_pos he]
  rw [zT he] at h1
  subst h1
  rw [zT he] at h2
  subst h2
  rw [zT he] at h3
  subst h3
  rw [zT he] at h4
  subst h4
  rw [h5, zT he]
 ·obtain ⟨a1, a2, _⟩ := qp ha
  obtain ⟨b1, b2, _⟩ := qp hb
  have he2 : zL a b = 0 := by unfold zL; rw [if_pos ha]; exact hb
  have e14 : (14 : Int) ≠ 0 := by decide
  rw [jI] at h1
  have hc : zq a b = if (mulI (numR a) (denR b)).2 ≠ 0 ∨ (mulI (numR b) (denR a)).2 ≠ 0 then 14 else 0 := by unfold zq; rw [if_neg (by rw [he2]; simp)]
  rcases w5 (zf.2 ⟨a1, b2⟩) with ⟨g1, k1⟩ | g1
  ·rw [← h1] at g1 k1
   rw [g1, jI] at h2
   rcases w5 (zf.2 ⟨b1, a2⟩) with ⟨g2, k2⟩ | g2
   ·rw [← h2] at g2 k2
    rw [g2, jI] at h3
    have hc0 : zq a b = 0 := by rw [hc, if_neg]; rw [← h1, ← h2, g1, g2]; simp
    unfold Zf
    rw [hc0, if_neg (by simp), ← h1, ← h2, ← h3]
    rcases hf (zf.2 ⟨k1, k2⟩) with ⟨g3, k3⟩ | g3
    ·rw [← h3] at g3 k3
     rw [g3, jI] at h4
     unfold frac
     rw [← h4, h5]
     rcases w5 (zf.2 ⟨a2, b2⟩) with ⟨g4, k4⟩ | g4
     ·rw [← h4] at g4
      rw [g3, g4, if_neg (by simp), jI]
     ·rw [← h4] at g4
      rw [g4, if_pos (by simp), zT e14]
    ·rw [← h3] at g3
     have q4 : r4 = ([], 14) := by rw [h4, g3]; exact zT e14 _ _ _
     unfold frac
     rw [if_pos (by rw [g3]; simp), h5, q4, zT e14]
   ·rw [← h2] at g2
    have hc0 : zq a b = 14 := by rw [hc, if_pos]; rw [← h2, g2]; simp
    unfold Zf
    rw [hc0, if_pos e14]
    have q3 : r3 = ([], 14) := by rw [h3, g2]; exact zT e14 _ _ _
    have q4 : r4 = ([], 14) := by rw [h4, q3]; exact zT e14 _ _ _
    rw [h5, q4, zT e14]
  ·rw [← h1] at g1
   have hc0 : zq a b = 14 := by rw [hc, if_pos]; rw [← h1, g1]; simp
   unfold Zf
   rw [hc0, if_pos e14]
   have q2 : r2 = ([], 14) := by rw [h2, g1]; exact zT e14 _ _ _
   have q3 : r3 = ([], 14) := by rw [h3, q2]; exact zT e14 _ _ _
   have q4 : r4 = ([], 14) := by rw [h4, q3]; exact zT e14 _ _ _
   rw [h5, q4, zT e14]
theorem Xv {x y z w : List UInt8} {r1 r2 r3 : List UInt8 × Int} (h1 : r1 = stp e mulI x y) (h2 : r2 = stp r1.2 mulI z w) (h3 : r3 = stp r2.2 q9 r1.1 r2.1)
  (hv : errR a = 0 → errR b = 0 → zl x y = 0 ∧ zl z w = 0) : r3 = if zL a b ≠ 0 then ([], zL a b) else frac (mulI x y) (mulI z w) := by
 rcases hp with ⟨he, h2e⟩ | ⟨rfl, ha, hb, _⟩
 ·rw [h2e, if_pos he]
  rw [zT he] at h1
  subst h1
  rw [zT he] at h2
  subst h2
  rw [h3, zT he]
 ·obtain ⟨v1, v2⟩ := hv ha hb
  have he2 : zL a b = 0 := by unfold zL; rw [if_pos ha]; exact hb
  have e14 : (14 : Int) ≠ 0 := by decide
  rw [he2, if_neg (by simp)]
  rw [jI] at h1
  unfold frac
  rcases w5 v1 with ⟨g1, _⟩ | g1
  ·rw [← h1] at g1 ⊢
   rw [g1, jI] at h2
   rcases w5 v2 with ⟨g2, _⟩ | g2
   ·rw [← h2] at g2 ⊢
    rw [g1, g2, if_neg (by simp), h3, g2, jI]
   ·rw [← h2] at g2 ⊢
    rw [g2, if_pos (by simp), h3, g2, zT e14]
  ·rw [← h1] at g1 ⊢
   have q2 : r2 = ([], 14) := by rw [h2, g1]; exact zT e14 _ _ _
   rw [g1, if_pos (by simp), h3, q2, zT e14]
theorem XA {r1 r2 : List UInt8 × Int} (h1 : r1 = stp e mulI n c) (h2 : r2 = stp r1.2 mulI m d) : (if r2.2 ≠ 0 then (0, r2.2) else wP r1.1 r2.1) = cmpR a b := by
 unfold cmpR
 rcases hp with ⟨he, h2e⟩ | ⟨rfl, ha, hb, rfl, rfl, rfl, rfl⟩
 ·have hc : zq a b = e := by unfold zq; rw [if_pos (by rw [h2e]; exact he)]; exact h2e
  rw [zT he] at h1
  subst h1
  rw [zT he] at h2
  subst h2
  rw [hc, if_pos he, if_pos he]
 ·obtain ⟨a1, a2, _⟩ := qp ha
  obtain ⟨b1, b2, _⟩ := qp hb
  have he2 : zL a b = 0 := by unfold zL; rw [if_pos ha]; exact hb
  have e14 : (14 : Int) ≠ 0 := by decide
  have hc : zq a b = if (mulI (numR a) (denR b)).2 ≠ 0 ∨ (mulI (numR b) (denR a)).2 ≠ 0 then 14 else 0 := by unfold zq; rw [if_neg (by rw [he2]; simp)]
  rw [jI] at h1
  rcases w5 (zf.2 ⟨a1, b2⟩) with ⟨g1, k1⟩ | g1
  ·rw [← h1] at g1
   rw [g1, jI] at h2
   rcases w5 (zf.2 ⟨b1, a2⟩) with ⟨g2, k2⟩ | g2
   ·rw [← h2] at g2
    have hc0 : zq a b = 0 := by rw [hc, if_neg]; rw [← h1, ← h2, g1, g2]; simp
    rw [hc0, if_neg (by rw [g2]; simp), if_neg (by simp), ← h1, ← h2]
   ·rw [← h2] at g2
    have hc0 : zq a b = 14 := by rw [hc, if_pos]; rw [← h2, g2]; simp
    rw [hc0, g2, if_pos e14, if_pos e14]
  ·rw [← h1] at g1
   have hc0 : zq a b = 14 := by rw [hc, if_pos]; rw [← h1, g1]; simp
   have q2 : r2 = ([], 14) := by rw [h2, g1]; exact zT e14 _ _ _
   rw [hc0, q2, if_pos e14, if_pos e14]
end
end Go.Nov
end

/- The integers: division; fractions. -/
section
set_option maxRecDepth 100000
open Go Go.Sx Go.Proofs Go.Nov
namespace Go.Proofs.Tryz
attribute [local simp] eqKV eqA eqA0 eqH eqB eqL eqL0
noncomputable def K108 : List Go.Sx.Item := [.code (Tryz.f108.body.getD .skip)]
noncomputable def K62 : List Go.Sx.Item := [.code (Tryz.f62.body.getD .skip)]
noncomputable def K69 : List Go.Sx.Item := [.code (Tryz.f69.body.getD .skip)]
def dmC : Ctr := ctrP true (fun p : List UInt8 × List UInt8 => [.str p.1, .str p.2]) (fun p => p.1.length < 2 ^ 62 ∧ p.2.length < 2 ^ 62) (fun p r => r = dmI p.1 p.2) (fun _ r => (.tup [.str r.1, .str r.2.1, .int .i64 r.2.2], []))
def GDm : Nat → Option Ctr := fun f => if f = 64 then some (yZ) else if f = 123 then some (xZ) else if f = 106 then some (Kk) else if f = 107 then some (QU) else if f = 65 then some (uQ) else none
theorem zel : ∀ g c, GDm g = some c → zc Tryz.prog g c := okIf QD (okIf Ql (okIf Xp (okIf Zz (okIf Zq (okNone)))))
theorem Xw : zc Tryz.prog 108 dmC := by
 refine ze (fn := Tryz.f108) (c := Tryz.f108.body.getD .skip) rfl rfl rfl fun p hp O w0 Q hq => ?_
 obtain ⟨s, t⟩ := p
 obtain ⟨hs, ht⟩ := hp
 replace hq := hq _ rfl
 simp only at hs ht hq
 refine zb.run hmix zel [] 400 (T := .ex (fun (x : List UInt8 × List UInt8) => eqL [AV.str s, AV.str t] [AV.str x.1, AV.str x.2] ∧ x.1.length < 4611686018427387904 ∧ x.2.length < 4611686018427387904) fun n => .all (fun (r : Int × (Bool × Nat) × Bool × Nat) => r = if zl n.1 n.2 = 0 then ((0 : Int), (negI n.1, numI n.1), negI n.2, numI n.2) else (zl n.1 n.2, (false, 0), false, 0)) fun n => .ite (!decide (n.1 = 0)) (.leaf (.ret [.str (Array.toList #[]), .str (Array.toList #[]), .int .i64 n.1] [.box [.bool (Prod.fst (n.2.1)), .sl (List.length (canon (Prod.snd (n.2.1)))) 1 (natG .u32 (canon (Prod.snd (n.2.1))))], .box [.bool (Prod.fst (n.2.2)), .sl (List.length (canon (Prod.snd (n.2.2)))) 1 (natG .u32 (canon (Prod.snd (n.2.2))))]])) (.ite (decide ((↑(List.length (canon (Prod.snd (n.2.2)))) : Int) = 0)) (.leaf (.ret [.str (Array.toList #[]), .str (Array.toList #[]), .int .i64 16] [.box [.bool (Prod.fst (n.2.1)), .sl (List.length (canon (Prod.snd (n.2.1)))) 1 (natG .u32 (canon (Prod.snd (n.2.1))))], .box [.bool (Prod.fst (n.2.2)), .sl (List.length (canon (Prod.snd (n.2.2)))) 1 (natG .u32 (canon (Prod.snd (n.2.2))))]])) (.ex (fun (x : Nat × Nat) => eqL [AV.sl (List.length (canon (Prod.snd (n.2.1)))) 1 (natG .u32 (canon (Prod.snd (n.2.1)))), AV.sl (List.length (canon (Prod.snd (n.2.2)))) 1 (natG .u32 (canon (Prod.snd (n.2.2))))] [AV.sl (canon x.1).length 1 (natG .u32 (canon x.1)), AV.sl (canon x.2).length 1 (natG .u32 (canon x.2))] ∧ List.length (canon x.1) < 100000 ∧ List.length (canon x.2) < 100000 ∧ 0 < x.2) fun n_1 => .all (fun (r : Nat × Nat) => r = (n_1.1 / n_1.2, n_1.1 % n_1.2)) fun n_2 => .ite (bif Prod.fst (n.2.1) then decide ((0 : Int) < (↑(canon n_2.2).length : Int)) else false) (.ex (fun (x : Nat × Nat) => eqL [AV.sl (canon n_2.1).length 1 (natG .u32 (canon n_2.1)), AV.sl 1 1 (zj (zk 1 [AV.int .u32 1]) 0)] [AV.sl (canon x.1).length 1 (natG .u32 (canon x.1)), AV.sl (canon x.2).length 1 (natG .u32 (canon x.2))] ∧ List.length (canon x.1) < 100000 ∧ List.length (canon x.2) < 100000) fun n_3 => .all (fun (d : Nat) => d = n_3.1 + n_3.2) fun n_4 => .ex (fun (x : Nat × Nat) => eqL [AV.sl (List.length (canon (Prod.snd (n.2.2)))) 1 (natG .u32 (canon (Prod.snd (n.2.2)))), AV.sl (canon n_2.2).length 1 (natG .u32 (canon n_2.2))] [AV.sl (canon x.1).length 1 (natG .u32 (canon x.1)), AV.sl (canon x.2).length 1 (natG .u32 (canon x.2))] ∧ fits x.1 ∧ x.2 ≤ x.1) fun n_5 => .all (fun (d : Nat) => d = n_5.1 - n_5.2) fun n_6 => .ex (fun (x : Bool × Nat) => eqL [AV.agg [AV.bool !Prod.fst (n.2.1) == Prod.fst (n.2.2), AV.sl (canon n_4).length 1 (natG .u32 (canon n_4))]] [AV.agg [AV.bool x.1, AV.sl (canon x.2).length 1 (natG .u32 (canon x.2))]] ∧ List.length (canon x.2) < 1000000) fun n_7 => .all (fun (r : List UInt8 × Int) => r = wr n_7.1 n_7.2) fun n_8 => .ite (!decide (n_8.2 = 0)) (.leaf (.ret [.str (Array.toList #[]), .str (Array.toList #[]), .int .i64 n_8.2] [.box [.bool (Prod.fst (n.2.1)), .sl (List.length (canon (Prod.snd (n.2.1)))) 1 (natG .u32 (canon (Prod.snd (n.2.1))))], .box [.bool (Prod.fst (n.2.2)), .sl (List.length (canon (Prod.snd (n.2.2)))) 1 (natG .u32 (canon (Prod.snd (n.2.2))))], .arr 1 1 (zk 1 [.int .u32 1])])) (.ex (fun (x : Bool × Nat) => eqL [AV.agg [AV.bool false, AV.sl (canon n_6).length 1 (natG .u32 (canon n_6))]] [AV.agg [AV.bool x.1, AV.sl (canon x.2).length 1 (natG .u32 (canon x.2))]] ∧ List.length (canon x.2) < 1000000) fun n_9 => .all (fun (r : List UInt8 × Int) => r = wr n_9.1 n_9.2) fun n_10 => .leaf (.ret [.str n_8.1, .str n_10.1, .int .i64 0] [.box [.bool (Prod.fst (n.2.1)), .sl (List.length (canon (Prod.snd (n.2.1)))) 1 (natG .u32 (canon (Prod.snd (n.2.1))))], .box [.bool (Prod.fst (n.2.2)), .sl (List.length (canon (Prod.snd (n.2.2)))) 1 (natG .u32 (canon (Prod.snd (n.2.2))))], .arr 1 1 (zk 1 [.int .u32 1])]))) (.ex (fun (x : Bool × Nat) => eqL [AV.agg [AV.bool !Prod.fst (n.2.1) == Prod.fst (n.2.2), AV.sl (canon n_2.1).length 1 (natG .u32 (canon n_2.1))]] [AV.agg [AV.bool x.1, AV.sl (canon x.2).length 1 (natG .u32 (canon x.2))]] ∧ List.length (canon x.2) < 1000000) fun n_3 => .all (fun (r : List UInt8 × Int) => r = wr n_3.1 n_3.2) fun n_4 => .ite (!decide (n_4.2 = 0)) (.leaf (.ret [.str (Array.toList #[]), .str (Array.toList #[]), .int .i64 n_4.2] [.box [.bool (Prod.fst (n.2.1)), .sl (List.length (canon (Prod.snd (n.2.1)))) 1 (natG .u32 (canon (Prod.snd (n.2.1))))], .box [.bool (Prod.fst (n.2.2)), .sl (List.length (canon (Prod.snd (n.2.2)))) 1 (natG .u32 (canon (Prod.snd (n.2.2))))]])) (.ex (fun (x : Bool × Nat) => eqL [AV.agg [AV.bool false, AV.sl (canon n_2.2).length 1 (natG .u32 (canon n_2.2))]] [AV.agg [AV.bool x.1, AV.sl (canon x.2).length 1 (natG .u32 (canon x.2))]] ∧ List.length (canon x.2) < 1000000) fun n_5 => .all (fun (r : List UInt8 × Int) => r = wr n_5.1 n_5.2) fun n_6 => .leaf (.ret [.str n_4.1, .str n_6.1, .int .i64 0] [.box [.bool (Prod.fst (n.2.1)), .sl (List.length (canon (Prod.snd (n.2.1)))) 1 (natG .u32 (canon (Prod.snd (n.2.1))))], .box [.bool (Prod.fst (n.2.2)), .sl (List.length (canon (Prod.snd (n.2.2)))) 1 (natG .u32 (canon (Prod.snd (n.2.2))))]])))))) (by kernel_rfl) ?_
 simp only [Tree.holds, zd]
 refine ⟨(s, t), ⟨by simp, by omega, by omega⟩, ⟨_, rfl⟩, ?_⟩
 rintro _ rfl
 simp only
 by_cases he : zl s t = 0
 ·obtain ⟨e1, e2⟩ := zf.1 he
  have c1 := zH (q6 e1) (by decide)
  have c2 := zH (q6 e2) (by decide)
  simp only [if_pos he]
  refine ⟨fun h => (by simp at h), fun _ => ?_⟩
  refine ⟨fun h0 => ?_, fun h0 => ?_⟩
  ·have h0 : numI t = 0 := kW.1 (by have := of_decide_eq_true h0; omega)
   have e : dmI s t = ([], [], 16) := by rw [dmI, if_neg (by rw [he]; decide), if_pos h0]
   rw [e] at hq
   exact RetR.scal hq rfl (by simp [resV])
  have h0 : numI t ≠ 0 := fun h => of_decide_eq_false h0 (by rw [kW.2 h]; rfl)
  have e : dmI s t = ((wr (negI s != negI t) (dmQ s t)).1, (wr false (dmM s t)).1, 0) := by rw [dmI, if_neg (by rw [he]; decide), if_neg h0]
  rw [e] at hq
  have rq := Wx e1 h0
  have rm := WD (s := s) e2 h0
  have eL : ∀ a b : Nat, eqL [AV.sl (canon a).length 1 (natG .u32 (canon a)), AV.sl (canon b).length 1 (natG .u32 (canon b))] [AV.sl (canon a).length 1 (natG .u32 (canon a)), AV.sl (canon b).length 1 (natG .u32 (canon b))] := fun a b => ⟨⟨rfl, rfl, za _ _ _⟩, ⟨rfl, rfl, za _ _ _⟩, trivial⟩
  have eV : ∀ (b : Bool) (a : Nat), eqL [.agg [AV.bool b, AV.sl (canon a).length 1 (natG .u32 (canon a))]] [.agg [AV.bool b, AV.sl (canon a).length 1 (natG .u32 (canon a))]] := fun b a => ⟨⟨rfl, ⟨rfl, rfl, za _ _ _⟩, trivial⟩, trivial⟩
  have big : ∀ {a : Nat}, room a → (canon a).length < 1000000 := fun {a} h => by
   obtain ⟨h3, h4, _⟩ := ua (wg (neg := false) h)
   have := zH (q6 h3) (by decide)
   rw [h4] at this; omega
  refine ⟨(numI s, numI t), ⟨eL _ _, c1, c2, Nat.pos_of_ne_zero h0⟩, ⟨_, rfl⟩, ?_⟩
  rintro _ rfl
  simp only
  rw [Za]
  have hmod := Nat.mod_lt (numI s) (Nat.pos_of_ne_zero h0)
  refine ⟨fun hc => ?_, fun hc => ?_⟩
  ·have hc : negI s = true ∧ 0 < numI s % numI t := by
    cases hn : negI s with
    | false => rw [hn] at hc; cases hc
    | true => rw [hn] at hc; exact ⟨rfl, of_decide_eq_true hc⟩
   have eQ : dmQ s t = numI s / numI t + 1 := if_pos hc
   have eM : dmM s t = numI t - numI s % numI t := if_pos hc
   rw [eQ, eM] at hq
   rw [eQ] at rq
   rw [eM] at rm
   have hone : canon 1 = [1] := by
    rw [qF (by decide)]
    exact congrArg (1 :: ·) zC
   have rdiv := room_le (Nat.div_le_self (numI s) (numI t)) (qD e1)
   have hdl : (canon (numI s / numI t)).length < 100000 := by
    have := zH (Nat.lt_of_le_of_lt (Nat.div_le_self (numI s) (numI t)) (q6 e1)) (by decide)
    exact this
   refine ⟨(numI s / numI t, 1), ⟨⟨⟨rfl, rfl, za _ _ _⟩, ⟨by rw [hone]; rfl, rfl, ?_⟩, trivial⟩, hdl, by show (canon 1).length < 100000; rw [hone]; decide⟩, ⟨_, rfl⟩, ?_⟩
   ·intro j o hj ho
    have : j = 0 := by omega
    subst this
    have : o = 0 := by omega
    subst this
    show AV.int .u32 1 = .int .u32 (((canon 1).getD 0 0 : Nat) : Int)
    rw [hone]; rfl
   rintro _ rfl
   refine ⟨(numI t, numI s % numI t), ⟨eL _ _, by show (canon (numI t)).length < 1000000; omega, by show numI s % numI t ≤ numI t; omega⟩, ⟨_, rfl⟩, ?_⟩
   rintro _ rfl
   refine ⟨(negI s != negI t, numI s / numI t + 1), ⟨eV _ _, big rq⟩, ⟨_, rfl⟩, ?_⟩
   rintro _ rfl
   have hz := wg (neg := (negI s != negI t)) rq
   refine ⟨fun h => by simp [hz] at h, fun _ => ⟨(false, numI t - numI s % numI t), ⟨eV _ _, big rm⟩, ⟨_, rfl⟩, ?_⟩⟩
   rintro _ rfl
   exact RetR.scal hq rfl (by simp [resV])
  ·have hc : ¬ (negI s = true ∧ 0 < numI s % numI t) := by
    rintro ⟨g1, g2⟩
    rw [g1, decide_eq_true g2] at hc
    cases hc
   have eQ : dmQ s t = numI s / numI t := if_neg hc
   have eM : dmM s t = numI s % numI t := if_neg hc
   rw [eQ, eM] at hq
   rw [eQ] at rq
   rw [eM] at rm
   refine ⟨(negI s != negI t, numI s / numI t), ⟨eV _ _, big rq⟩, ⟨_, rfl⟩, ?_⟩
   rintro _ rfl
   have hz := wg (neg := (negI s != negI t)) rq
   refine ⟨fun h => by simp [hz] at h, fun _ => ⟨(false, numI s % numI t), ⟨eV _ _, big rm⟩, ⟨_, rfl⟩, ?_⟩⟩
   rintro _ rfl
   exact RetR.scal hq rfl (by simp [resV])
 ·simp only [if_neg he]
  refine ⟨fun _ => ?_, fun h => (by simp [he] at h)⟩
  have e : dmI s t = ([], [], zl s t) := if_pos he
  rw [e] at hq
  exact RetR.scal hq rfl (by simp [resV])
def zah : Ctr := ctrP true (fun s : List UInt8 => [.str s]) (fun s => s.length < 2 ^ 62) (fun s r => r = if errR s = 0 then (numR s, denR s, 0) else ([], [], errR s)) (fun _ (r : List UInt8 × List UInt8 × Int) => (.tup [.str r.1, .str r.2.1, .int .i64 r.2.2], []))
def GPa : Nat → Option Ctr := fun f => if f = 55 then some (uy) else if f = 92 then some (VU) else none
theorem zfh : ∀ g c, GPa g = some c → zc Tryz.prog g c := okIf yQ (okIf Wi (okNone))
theorem Ux : zc Tryz.prog 62 zah := by
 refine ze (fn := Tryz.f62) (c := Tryz.f62.body.getD .skip) rfl rfl rfl fun s hs O w0 Q hq => ?_
 replace hq := hq _ rfl
 refine zb.run hmix zfh [] 400 (T := .ex (fun (x : List UInt8) => eqL [AV.str s] [AV.str x] ∧ x.length < 4611686018427387904) fun n => .all (fun (r : Int) => r = errR n) fun n => .ite (!decide (n = 0)) (.leaf (.ret [.str (Array.toList #[]), .str (Array.toList #[]), .int .i64 n] [])) (.ex (fun (x : List UInt8) => eqL [AV.str s] [AV.str x] ∧ x.length < 4611686018427387904) fun n => .all (fun (r : List UInt8 × List UInt8 × Bool) => r = cutR n) fun n => .ite (!Prod.snd n.2) (.leaf (.ret [.str n.1, .str (Array.toList #[(49 : UInt8)]), .int .i64 0] [])) (.leaf (.ret [.str n.1, .str (n.2.1), .int .i64 0] [])))) (by kernel_rfl) ?_
 simp only [Tree.holds, zd]
 refine ⟨s, ⟨by simp, hs⟩, ⟨_, rfl⟩, ?_⟩
 rintro _ rfl
 refine ⟨fun h => ?_, fun h => ⟨s, ⟨by simp, hs⟩, ⟨_, rfl⟩, ?_⟩⟩
 ·have h : errR s ≠ 0 := by simpa using h
  rw [if_neg h] at hq
  exact RetR.scal hq rfl (by simp [resV])
 ·have h : errR s = 0 := by simpa using h
  rw [if_pos h] at hq
  rintro _ rfl
  refine ⟨fun g => ?_, fun g => ?_⟩
  ·have e : denR s = [49] := by unfold denR; rw [if_neg (by simpa using g)]
   rw [e] at hq
   exact RetR.scal hq rfl (by simp [resV, numR])
  ·have e : denR s = (cutR s).2.1 := by unfold denR; rw [if_pos (by simpa using g)]
   rw [e] at hq
   exact RetR.scal hq rfl (by simp [resV, numR])
def KK : Ctr := ctrP true (fun p : List UInt8 × List UInt8 => [.str p.1, .str p.2]) (fun p => p.1.length < 2 ^ 62 ∧ p.2.length < 2 ^ 62) (fun p r => r = q9 p.1 p.2) (fun _ r => (.tup [.str r.1, .int .i64 r.2], []))
def GMk : Nat → Option Ctr := fun f => if f = 95 then some (gcdC) else if f = 108 then some (dmC) else none
theorem zf7 : ∀ g c, GMk g = some c → zc Tryz.prog g c := okIf zav (okIf Xw (okNone))
theorem zch : zc Tryz.prog 69 KK := by
 refine ze (fn := Tryz.f69) (c := Tryz.f69.body.getD .skip) rfl rfl rfl fun p hp O w0 Q hq => ?_
 obtain ⟨s, t⟩ := p
 obtain ⟨hs, ht⟩ := hp
 replace hq := hq _ rfl
 simp only at hs ht hq
 refine zb.run hmix zf7 [] 400 (T := .ex (fun (x : List UInt8 × List UInt8) => eqL [AV.str s, AV.str t] [AV.str x.1, AV.str x.2] ∧ x.1.length < 4611686018427387904 ∧ x.2.length < 4611686018427387904) fun n => .all (fun (r : List UInt8 × Int) => r = gcdR n.1 n.2) fun n => .ite (!decide (n.2 = 0)) (.leaf (.ret [.str (Array.toList #[]), .int .i64 n.2] [])) (.ite (decide (t = Array.toList #[(48 : UInt8)])) (.leaf (.ret [.str (Array.toList #[]), .int .i64 16] [])) (.side ((0 : Int) ≤ 0 ∧ (0 : Int) < t.length) (.ite (decide ((↑(UInt8.toNat (List.getD t 0 (0 : UInt8))) : Int) = 45)) (.side (1 + n.1.length ≤ 9223372036854775807) (.ex (fun (x : List UInt8 × List UInt8) => eqL [AV.str s, AV.str (Array.toList #[(45 : UInt8)] ++ n.1)] [AV.str x.1, AV.str x.2] ∧ x.1.length < 4611686018427387904 ∧ x.2.length < 4611686018427387904) fun n_1 => .all (fun (r : List UInt8 × List UInt8 × Int) => r = dmI n_1.1 n_1.2) fun n_2 => .ex (fun (x : List UInt8 × List UInt8) => eqL [AV.str t, AV.str (Array.toList #[(45 : UInt8)] ++ n.1)] [AV.str x.1, AV.str x.2] ∧ x.1.length < 4611686018427387904 ∧ x.2.length < 4611686018427387904) fun n => .all (fun (r : List UInt8 × List UInt8 × Int) => r = dmI n.1 n.2) fun n => .ite (decide (n.1 = Array.toList #[(49 : UInt8)])) (.leaf (.ret [.str n_2.1, .int .i64 0] [])) (.side (n_2.1.length + 1 ≤ 9223372036854775807) (.side (List.length (n_2.1 ++ Array.toList #[(47 : UInt8)]) + n.1.length ≤ 9223372036854775807) (.leaf (.ret [.str (n_2.1 ++ Array.toList #[(47 : UInt8)] ++ n.1), .int .i64 0] [])))))) (.ex (fun (x : List UInt8 × List UInt8) => eqL [AV.str s, AV.str n.1] [AV.str x.1, AV.str x.2] ∧ x.1.length < 4611686018427387904 ∧ x.2.length < 4611686018427387904) fun n_1 => .all (fun (r : List UInt8 × List UInt8 × Int) => r = dmI n_1.1 n_1.2) fun n_2 => .ex (fun (x : List UInt8 × List UInt8) => eqL [AV.str t, AV.str n.1] [AV.str x.1, AV.str x.2] ∧ x.1.length < 4611686018427387904 ∧ x.2.length < 4611686018427387904) fun n => .all (fun (r : List UInt8 × List UInt8 × Int) => r = dmI n.1 n.2) fun n => .ite (decide (n.1 = Array.toList #[(49 : UInt8)])) (.leaf (.ret [.str n_2.1, .int .i64 0] [])) (.side (n_2.1.length + 1 ≤ 9223372036854775807) (.side (List.length (n_2.1 ++ Array.toList #[(47 : UInt8)]) + n.1.length ≤ 9223372036854775807) (.leaf (.ret [.str (n_2.1 ++ Array.toList #[(47 : UInt8)] ++ n.1), .int .i64 0] []))))))))) (by kernel_rfl) ?_
 simp only [Tree.holds, zd, inR, lo, hi, Int.toNat_natCast]
 refine ⟨(s, t), ⟨by simp, by omega, by omega⟩, ⟨_, rfl⟩, ?_⟩
 rintro _ rfl
 by_cases he : zl s t = 0
 ·obtain ⟨e1, e2⟩ := zf.1 he
  have eg : gcdR s t = wr false (Nat.gcd (numI s) (numI t)) := if_pos he
  by_cases h0 : numI t = 0
  ·have ht0 : t = [48] := (wy e2).2 h0
   have hg0 : Nat.gcd (numI s) (numI t) = numI s := by rw [h0, Nat.gcd_zero_right]
   have hz : (gcdR s t).2 = 0 := by rw [eg, hg0]; exact wg (qD e1)
   have e : q9 s t = ([], 16) := by rw [q9, if_neg (by rw [he]; decide), if_pos h0]
   rw [e] at hq
   refine ⟨fun h => (by simp [hz] at h), fun _ => ⟨fun _ => RetR.scal hq rfl (by simp [resV]), fun h => (by simp [ht0] at h)⟩⟩
  ·obtain ⟨g0, gr⟩ := uS (s := s) e2 h0
   have hz : (gcdR s t).2 = 0 := by rw [eg]; exact wg gr
   have ht0 : t ≠ [48] := fun h => h0 ((wy e2).1 h)
   have htn : t ≠ [] := by rintro rfl; simp [Zx] at e2
   have hneg := y5 htn
   have e : q9 s t = (Qx (negI s != negI t) (numI s) (numI t), 0) := by rw [q9, if_neg (by rw [he]; decide), if_neg h0]
   rw [e, Qx] at hq
   have ds : Nat.gcd (numI s) (numI t) ∣ numI s := Nat.gcd_dvd_left _ _
   have dt : Nat.gcd (numI s) (numI t) ∣ numI t := Nat.gcd_dvd_right _ _
   generalize hgg : Nat.gcd (numI s) (numI t) = g at *
   have rt := room_le (Nat.div_le_self (numI t) g) (qD e2)
   have l1 := j9 false g
   have l2 := j9 true g
   have fin : ∀ b : Bool, b = negI t → ∀ (z w : List UInt8 × List UInt8 × Int), z = dmI s (wr b g).1 → w = dmI t (wr b g).1 →
     (decide (w.1 = [49]) = true → RetR KK 0 Q [.str z.1, .int .i64 0] []) ∧ (decide (w.1 = [49]) = false → z.1.length + 1 ≤ 9223372036854775807 ∧ (z.1.length + 1 ≤ 9223372036854775807 → (z.1 ++ [47]).length + w.1.length ≤ 9223372036854775807 ∧ ((z.1 ++ [47]).length + w.1.length ≤ 9223372036854775807 → RetR KK 0 Q [.str (z.1 ++ [47] ++ w.1), .int .i64 0] []))) := by
    rintro b rfl z w rfl rfl
    rw [yd e1 g0 gr ds, yd e2 g0 gr dt]
    simp only
    have : (negI t != negI t) = false := by simp
    rw [this]
    have k1 := j9 (negI s != negI t) (numI s / g)
    have k2 := j9 false (numI t / g)
    refine ⟨fun h => ?_, fun h => ⟨by omega, fun _ => ⟨by simp; omega, fun _ => ?_⟩⟩⟩
    ·have h1 := (uN rt).1 (of_decide_eq_true h)
     rw [if_pos h1] at hq
     exact RetR.scal hq rfl (by simp [resV])
    ·have h1 : ¬ numI t / g = 1 := fun h1 => of_decide_eq_false h ((uN rt).2 h1)
     rw [if_neg h1] at hq
     exact RetR.scal hq rfl (by simp [resV])
   rw [eg] at hz ⊢
   refine ⟨fun h => (by simp [hz] at h), fun _ => ⟨fun h => absurd (of_decide_eq_true h) ht0, fun _ => ⟨⟨by omega, by have := List.length_pos_iff.2 htn; omega⟩, fun _ => ⟨fun hb => ⟨by omega, fun _ => ?_⟩, fun hb => ?_⟩⟩⟩⟩
   ·have hn : negI t = true := by
     rw [hneg, decide_eq_true_eq]
     exact xc (of_decide_eq_true hb)
    rw [zau g0 gr]
    refine ⟨(s, (wr true g).1), ⟨by simp, by show s.length < _; omega, by show (wr true g).1.length < _; omega⟩, ⟨_, rfl⟩, ?_⟩
    intro z hz
    refine ⟨(t, (wr true g).1), ⟨by simp, by show t.length < _; omega, by show (wr true g).1.length < _; omega⟩, ⟨_, rfl⟩, ?_⟩
    intro w hw
    exact fin true hn.symm z w hz hw
   ·have hn : negI t = false := by
     rw [hneg, decide_eq_false_iff_not]
     intro h
     apply of_decide_eq_false hb
     rw [h]; rfl
    refine ⟨(s, (wr false g).1), ⟨by simp, by show s.length < _; omega, by show (wr false g).1.length < _; omega⟩, ⟨_, rfl⟩, ?_⟩
    intro z hz
    refine ⟨(t, (wr false g).1), ⟨by simp, by show t.length < _; omega, by show (wr false g).1.length < _; omega⟩, ⟨_, rfl⟩, ?_⟩
    intro w hw
    exact fin false hn.symm z w hz hw
 ·have eg : gcdR s t = ([], zl s t) := if_neg he
  have e : q9 s t = ([], zl s t) := if_pos he
  rw [e] at hq
  rw [eg]
  exact ⟨fun _ => RetR.scal hq rfl (by simp [resV]), fun h => by simp [he] at h⟩
end Go.Proofs.Tryz
end

/- Nil slices of a result, handed back as own empty ones. -/
section
namespace Go.Sx
variable [Stat]
section
variable {own own' O : Nat → Prop} {w w' : World} {σ σ' : List SE} {P : Program} {fn : Func}
theorem uI.mono {g : Nat} {vals : Array Value} {R R' : Value → World → Prop} (hR : ∀ v w', R v w' → R' v w') (h : uI P g vals w R) : uI P g vals w R' := by
 rcases h with ⟨h1, h2⟩ | ⟨v, w', h1, h2⟩
 ·exact .inl ⟨h1, h2.mono fun e w' ⟨v, he, hv⟩ => ⟨v, he, hR v w' hv⟩⟩
 ·exact .inr ⟨v, w', h1, hR v w' h2⟩
variable {pin : Nat} {w0 : World} {σ0 : List SE} {a : Act}
theorem RetR.outs {ctr : Ctr} {Q : AV × Heap → Prop} {rs : List AV} {h : Heap} {r : AV} {hs : Heap} (L : List Nat) (hnd : w9 L = true) (hlt : (L.all fun i => decide (i < h.length)) = true) (hq : Q (r, hs)) (hn : ctr.fresh = true → new2 h L (resV rs) ∧ ∀ i ∈ L, newB (h.getD i .dead))
  (he : eqA2 (exp2 h L (resV rs)) r) (hb : eqH (expH h L) hs) (hl : hs.length = L.length) : RetR ctr 0 Q rs h :=
 ⟨L, hnd, fun i hi => by have := List.all_eq_true.1 hlt i hi; simpa using this, by simp, hn, r, hs, he, hb, hl, hq⟩
theorem RetR.keep {ctr : Ctr} {m : Nat} {Q : AV × Heap → Prop} {rs : List AV} {h : Heap} {r : AV} {hs : Heap} (L : List Nat) (hnd : w9 L = true) (hlt : (L.all fun i => decide (i < h.length)) = true) (hj : ∀ j, j < m → L[j]? = some j) (hf : ctr.fresh = false) (hq : Q (r, hs))
  (he : eqA2 (exp2 h L (resV rs)) r) (hb : eqH (expH h L) hs) (hl : hs.length = L.length) : RetR ctr m Q rs h :=
 ⟨L, hnd, fun i hi => by have := List.all_eq_true.1 hlt i hi; simpa using this, hj, (fun hh => absurd hh (by rw [hf]; decide)), r, hs, he, hb, hl, hq⟩
end
end Go.Sx
end

/- Rationals: pairs. -/
section
set_option maxRecDepth 100000
open Go Go.Sx Go.Proofs Go.Nov
namespace Go.Proofs.Tryz
attribute [local simp] eqKV eqA eqA0 eqH eqB eqL eqL0
noncomputable def K34 : List Go.Sx.Item := [.code (Tryz.f34.body.getD .skip)]
noncomputable def K63 : List Go.Sx.Item := [.code (Tryz.f63.body.getD .skip)]
noncomputable def K38 : List Go.Sx.Item := [.code (Tryz.f38.body.getD .skip)]
noncomputable def K33 : List Go.Sx.Item := [.code (Tryz.f33.body.getD .skip)]
structure Pr where
 n : List UInt8
 m : List UInt8
 d : List UInt8
 c : List UInt8
 e : Int
def Pr.box (p : Pr) : Blk := .box [.str p.n, .str p.m, .str p.d, .str p.c, .int .i64 p.e]
def Pr.err (p : Pr) (e : Int) : Pr := ⟨p.n, p.m, p.d, p.c, e⟩
inductive QOp where
 | add | sub | mul
def QOp.fn : QOp → Nat
 | .add => 37
 | .sub => 39
 | .mul => 35
def QOp.op : QOp → List UInt8 → List UInt8 → List UInt8 × Int
 | .add => addI
 | .sub => subI
 | .mul => mulI
def qS (a b : List UInt8) : Pr := if errR a ≠ 0 then ⟨[], [], [], [], errR a⟩ else if errR b ≠ 0 then ⟨numR a, [], denR a, [], errR b⟩ else ⟨numR a, numR b, denR a, denR b, 0⟩
def zbb : Ctr := ctrT false false (fun p : List UInt8 × List UInt8 => [.str p.1, .str p.2]) (fun _ => []) (fun p => p.1.length < 2 ^ 62 ∧ p.2.length < 2 ^ 62) (fun p r => r = qS p.1 p.2) (fun _ (r : Pr) => (.ptr 0 0, [r.box]))
def YZ : Ctr := ctrT false false (fun p : Pr × QOp => [.ptr 0 0, .fn p.2.fn [] []]) (fun p => [p.1.box]) (fun _ => True) (fun _ (_ : Unit) => True) (fun p _ => (.fn 63 [] [.ptr 1 0, .ptr 2 0], [p.1.box, .box [.ptr 0 0], .box [.fn p.2.fn [] []]]))
structure KX where
 p : Pr
 o : QOp
 x : List UInt8
 y : List UInt8
def VW : Ctr := ctrT false false (fun k : KX => [.str k.x, .str k.y, .ptr 0 0, .ptr 2 0]) (fun k => [.box [.ptr 1 0], k.p.box, .box [.fn k.o.fn [] []]]) (fun k => k.x.length < 2 ^ 62 ∧ k.y.length < 2 ^ 62) (fun k r => r = if k.p.e ≠ 0 then ([], k.p.e) else k.o.op k.x k.y)
 (fun k (r : List UInt8 × Int) => (.str r.1, [.box [.ptr 1 0], (k.p.err r.2).box, .box [.fn k.o.fn [] []]]))
def YT : Ctr := ctrT false false (fun k : Pr × List UInt8 × List UInt8 => [.ptr 0 0, .str k.2.1, .str k.2.2]) (fun k => [k.1.box]) (fun k => k.2.1.length < 2 ^ 62 ∧ k.2.2.length < 2 ^ 62) (fun k r => r = if k.1.e ≠ 0 then ([], k.1.e) else q9 k.2.1 k.2.2)
 (fun k (r : List UInt8 × Int) => (.tup [.str r.1, .int .i64 r.2], [k.1.box]))
theorem za0 : zc Tryz.prog 34 YZ := by
 refine zN (fn := Tryz.f34) (c := Tryz.f34.body.getD .skip) rfl rfl rfl (fun h => by cases h) fun p hp O w0 σ0 Q hl0 hq => ?_
 obtain ⟨p, o⟩ := p
 replace hq := hq () trivial
 refine zb.run hmix zo [] 400 (T := .leaf (.ret [.fn 63 [] [.ptr 1 0, .ptr 2 0]] [.box [.str p.n, .str p.m, .str p.d, .str p.c, .int .i64 p.e], .box [.ptr 0 0], .box [.fn (QOp.fn o) [] []]])) (by kernel_rfl) ?_
 simp only [Tree.holds, zd]
 refine RetR.keep [0, 1, 2] rfl rfl (by show ∀ j, j < 1 → _; decide) rfl hq ?_ ?_ rfl
 ·rfl
 ·exact ⟨⟨rfl, rfl, rfl, rfl, ⟨rfl, rfl⟩, trivial⟩, ⟨⟨rfl, rfl⟩, trivial⟩, ⟨rfl, trivial⟩, trivial⟩
def GK1 : Nat → Option Ctr := fun f => if f = 37 then some (addC) else if f = 39 then some (subC) else if f = 35 then some (mulC) else none
theorem VO : ∀ g c, GK1 g = some c → zc Tryz.prog g c := okIf zg6 (okIf zfe (okIf zfm (okNone)))
theorem zag : zc Tryz.prog 63 VW := by
 refine zN (fn := Tryz.f63) (c := Tryz.f63.body.getD .skip) rfl rfl rfl (fun h => by cases h) fun k hk O w0 σ0 Q hl0 hq => ?_
 obtain ⟨⟨n, m, d, c, e⟩, o, x, y⟩ := k
 obtain ⟨h1, h2⟩ := hk
 replace hq := hq _ rfl
 simp only at h1 h2 hq
 have fin : ∀ r : List UInt8 × Int, (if e ≠ 0 then ([], e) else o.op x y) = r → RetR VW 3 Q [.str r.1] [.box [.ptr 1 0], .box [.str n, .str m, .str d, .str c, .int .i64 r.2], .box [.fn o.fn [] []]] := by
  rintro r rfl
  refine RetR.keep [0, 1, 2] rfl rfl (by show ∀ j, j < 3 → _; decide) rfl hq ?_ ?_ rfl
  ·rfl
  ·exact ⟨⟨⟨rfl, rfl⟩, trivial⟩, ⟨rfl, rfl, rfl, rfl, ⟨rfl, rfl⟩, trivial⟩, ⟨rfl, trivial⟩, trivial⟩
 cases o with
 | add =>
  refine zb.run hmix VO [] 400 (T := .ite (!decide (e = 0)) (.leaf (.ret [.str (Array.toList #[])] [.box [.ptr 1 0], .box [.str n, .str m, .str d, .str c, .int .i64 e], .box [.fn 37 [] []]])) (.ex (fun (x_1 : List UInt8 × List UInt8) => eqL [AV.str x, AV.str y] [AV.str x_1.1, AV.str x_1.2] ∧ x_1.1.length < 4611686018427387904 ∧ x_1.2.length < 4611686018427387904) fun n_1 => .all (fun (r : List UInt8 × Int) => r = addI n_1.1 n_1.2) fun n_2 => .leaf (.ret [.str n_2.1] [.box [.ptr 1 0], .box [.str n, .str m, .str d, .str c, .int .i64 n_2.2], .box [.fn 37 [] []]]))) (by kernel_rfl) ?_
  simp only [Tree.holds, zd]
  refine ⟨fun h => ?_, fun h => ⟨(x, y), ⟨by simp, h1, h2⟩, ⟨_, rfl⟩, ?_⟩⟩
  ·have h : e ≠ 0 := by simpa using h
   exact fin ([], e) (if_pos h)
  ·have h : e = 0 := by simpa using h
   rintro _ rfl
   exact fin (addI x y) (if_neg (by simp [h]))
 | sub =>
  refine zb.run hmix VO [] 400 (T := .ite (!decide (e = 0)) (.leaf (.ret [.str (Array.toList #[])] [.box [.ptr 1 0], .box [.str n, .str m, .str d, .str c, .int .i64 e], .box [.fn 39 [] []]])) (.ex (fun (x_1 : List UInt8 × List UInt8) => eqL [AV.str x, AV.str y] [AV.str x_1.1, AV.str x_1.2] ∧ x_1.1.length < 4611686018427387904 ∧ x_1.2.length < 4611686018427387904) fun n_1 => .all (fun (r : List UInt8 × Int) => r = subI n_1.1 n_1.2) fun n_2 => .leaf (.ret [.str n_2.1] [.box [.ptr 1 0], .box [.str n, .str m, .str d, .str c, .int .i64 n_2.2], .box [.fn 39 [] []]]))) (by kernel_rfl) ?_
  simp only [Tree.holds, zd]
  refine ⟨fun h => ?_, fun h => ⟨(x, y), ⟨by simp, h1, h2⟩, ⟨_, rfl⟩, ?_⟩⟩
  ·have h : e ≠ 0 := by simpa using h
   exact fin ([], e) (if_pos h)
  ·have h : e = 0 := by simpa using h
   rintro _ rfl
   exact fin (subI x y) (if_neg (by simp [h]))
 | mul =>
  refine zb.run hmix VO [] 400 (T := .ite (!decide (e = 0)) (.leaf (.ret [.str (Array.toList #[])] [.box [.ptr 1 0], .box [.str n, .str m, .str d, .str c, .int .i64 e], .box [.fn 35 [] []]])) (.ex (fun (x_1 : List UInt8 × List UInt8) => eqL [AV.str x, AV.str y] [AV.str x_1.1, AV.str x_1.2] ∧ x_1.1.length < 4611686018427387904 ∧ x_1.2.length < 4611686018427387904) fun n_1 => .all (fun (r : List UInt8 × Int) => r = mulI n_1.1 n_1.2) fun n_2 => .leaf (.ret [.str n_2.1] [.box [.ptr 1 0], .box [.str n, .str m, .str d, .str c, .int .i64 n_2.2], .box [.fn 35 [] []]]))) (by kernel_rfl) ?_
  simp only [Tree.holds, zd]
  refine ⟨fun h => ?_, fun h => ⟨(x, y), ⟨by simp, h1, h2⟩, ⟨_, rfl⟩, ?_⟩⟩
  ·have h : e ≠ 0 := by simpa using h
   exact fin ([], e) (if_pos h)
  ·have h : e = 0 := by simpa using h
   rintro _ rfl
   exact fin (mulI x y) (if_neg (by simp [h]))
def GMd : Nat → Option Ctr := fun f => if f = 69 then some (KK) else none
theorem zf6 : ∀ g c, GMd g = some c → zc Tryz.prog g c := okIf zch (okNone)
theorem zc1 : zc Tryz.prog 38 YT := by
 refine zN (fn := Tryz.f38) (c := Tryz.f38.body.getD .skip) rfl rfl rfl (fun h => by cases h) fun k hk O w0 σ0 Q hl0 hq => ?_
 obtain ⟨⟨n, m, d, c, e⟩, x, y⟩ := k
 obtain ⟨h1, h2⟩ := hk
 replace hq := hq _ rfl
 simp only at h1 h2 hq
 have fin : ∀ r : List UInt8 × Int, (if e ≠ 0 then ([], e) else q9 x y) = r → RetR YT 1 Q [.str r.1, .int .i64 r.2] [.box [.str n, .str m, .str d, .str c, .int .i64 e]] := by
  rintro r rfl
  refine RetR.keep [0] rfl rfl (by show ∀ j, j < 1 → _; decide) rfl hq ?_ ?_ rfl
  ·exact ⟨rfl, ⟨rfl, rfl⟩, trivial⟩
  ·exact ⟨⟨rfl, rfl, rfl, rfl, ⟨rfl, rfl⟩, trivial⟩, trivial⟩
 refine zb.run hmix zf6 [] 400 (T := .ite (!decide (e = 0)) (.leaf (.ret [.str (Array.toList #[]), .int .i64 e] [.box [.str n, .str m, .str d, .str c, .int .i64 e]])) (.ex (fun (x_1 : List UInt8 × List UInt8) => eqL [AV.str x, AV.str y] [AV.str x_1.1, AV.str x_1.2] ∧ x_1.1.length < 4611686018427387904 ∧ x_1.2.length < 4611686018427387904) fun n_1 => .all (fun (r : List UInt8 × Int) => r = q9 n_1.1 n_1.2) fun n_2 => .leaf (.ret [.str n_2.1, .int .i64 n_2.2] [.box [.str n, .str m, .str d, .str c, .int .i64 e]]))) (by kernel_rfl) ?_
 simp only [Tree.holds, zd]
 refine ⟨fun h => ?_, fun h => ⟨(x, y), ⟨by simp, h1, h2⟩, ⟨_, rfl⟩, ?_⟩⟩
 ·have h : e ≠ 0 := by simpa using h
  exact fin ([], e) (if_pos h)
 ·have h : e = 0 := by simpa using h
  rintro _ rfl
  exact fin (q9 x y) (if_neg (by simp [h]))
def Pst (a b : List UInt8) : Nat → Pr
 | 0 => ⟨[], [], [], [], 0⟩
 | 1 => if errR a ≠ 0 then ⟨[], [], [], [], errR a⟩ else ⟨numR a, [], denR a, [], 0⟩
 | _ => qS a b
def SBq (a b : List UInt8) (i : Nat) : KV := [(5, .ptr 0 0), (12, .agg [.str a, .str b]), (13, .int .i64 (i : Int))]
def GBq : Nat → Option Ctr := fun f => if f = 62 then some (zah) else none
theorem J4 : ∀ g c, GBq g = some c → zc Tryz.prog g c := okIf Ux (okNone)
theorem Un : zc Tryz.prog 33 zbb := by
 refine zN (fn := Tryz.f33) (c := Tryz.f33.body.getD .skip) rfl rfl rfl (fun h => by cases h) fun p hp O w0 σ0 Q hl0 hq => ?_
 obtain rfl : σ0 = [] := List.length_eq_zero_iff.1 hl0
 obtain ⟨a, b⟩ := p
 obtain ⟨h1, h2⟩ := hp
 replace hq := hq _ rfl
 simp only at h1 h2 hq
 refine zb.run hmix J4 [5, 12, 13] 400 (T := .leaf (.loop (Prod.fst (lps K33 0)) (Prod.snd (lps K33 0)) [(5, .ptr 0 0), (12, .agg [.str a, .str b]), (13, .int .i64 0)] [.box [.str (Array.toList #[]), .str (Array.toList #[]), .str (Array.toList #[]), .str (Array.toList #[]), .int .i64 0]])) (by kernel_rfl) ?_
 simp only [Tree.holds, zd]
 refine zb.loop (ι := {i : Nat // i ≤ 2}) (fun i => SBq a b i.1) (fun i => [(Pst a b i.1).box]) (fun i => 2 - i.1) ⟨0, Nat.zero_le _⟩ 0 ?_ ?_ (by kernel_rfl)
 ·exact ⟨by simp [SBq], by simp [Pst, Pr.box], by kernel_rfl, Nat.zero_le _⟩
 rintro ⟨i, hil⟩
 match i, hil with
 | 0, _ =>
  refine zb.run hmix J4 [5, 12, 13] 400 (T := .ite true (.side ((0 : Int) ≤ 0 ∧ (0 : Int) < 2 ∧ 1 ≤ List.length [AV.str a, AV.str b]) (.ite true (.ex (fun (x : List UInt8) => eqL [AV.str a] [AV.str x] ∧ x.length < 4611686018427387904) fun n => .all (fun (r : List UInt8 × List UInt8 × Int) => r = if errR n = 0 then (numR n, denR n, (0 : Int)) else ([], [], errR n)) fun n => .side ((0 : Int) ≤ 0 ∧ (0 : Int) < 2) (.side ((0 : Int) ≤ 0 ∧ (0 : Int) < 2) (.side (inR .i64 (1 : Int)) (.leaf (.back 0 [(5, .ptr 0 0), (12, .agg [.str a, .str b]), (13, .int .i64 1)] [.box [.str n.1, .str [], .str (n.2.1), .str [], .int .i64 (n.2.2)]]))))) (.side (inR .i64 (1 : Int)) (.leaf (.back 0 [(5, .ptr 0 0), (12, .agg [.str a, .str b]), (13, .int .i64 1)] [.box [.str [], .str [], .str [], .str [], .int .i64 0]]))))) (.leaf (.ret [.ptr 0 0] [.box [.str [], .str [], .str [], .str [], .int .i64 0]]))) (by kernel_rfl) ?_
  simp only [Tree.holds, zd, inR, lo, hi, Int.toNat_natCast]
  refine ⟨fun _ => ⟨by simp, fun _ => ⟨fun _ => ⟨a, ⟨by simp, h1⟩, ⟨_, rfl⟩, ?_⟩, fun h => (by cases h)⟩⟩, fun h => (by cases h)⟩
  intro r hr
  refine ⟨by decide, fun _ => ⟨by decide, fun _ => ⟨by decide, fun _ => ?_⟩⟩⟩
  rw [if_pos trivial]
  refine ⟨⟨1, by decide⟩, by decide, by simp [SBq], ?_, by kernel_rfl, Nat.zero_le _⟩
  have e : Pst a b 1 = ⟨r.1, [], r.2.1, [], r.2.2⟩ := by
   rw [hr]
   by_cases h : errR a = 0
   ·simp [Pst, h]
   ·simp [Pst, h]
  show eqH _ [(Pst a b 1).box]
  rw [e]
  simp [Pr.box]
 | 1, _ =>
  obtain ⟨⟨n, m, d, c, e⟩, hp⟩ : ∃ p, Pst a b 1 = p := ⟨_, rfl⟩
  simp only [hp]
  refine zb.run hmix J4 [5, 12, 13] 400 (T := .ite true (.side ((0 : Int) ≤ 1 ∧ (1 : Int) < 2 ∧ 2 ≤ List.length [AV.str a, AV.str b]) (.ite (decide (e = 0)) (.ex (fun (x : List UInt8) => eqL [AV.str b] [AV.str x] ∧ x.length < 4611686018427387904) fun n_1 => .all (fun (r : List UInt8 × List UInt8 × Int) => r = if errR n_1 = 0 then (numR n_1, denR n_1, (0 : Int)) else ([], [], errR n_1)) fun n_2 => .side ((0 : Int) ≤ 1 ∧ (1 : Int) < 2) (.side ((0 : Int) ≤ 1 ∧ (1 : Int) < 2) (.side (inR .i64 (2 : Int)) (.leaf (.back 0 [(5, .ptr 0 0), (12, .agg [.str a, .str b]), (13, .int .i64 2)] [.box [.str n, .str n_2.1, .str d, .str (n_2.2.1), .int .i64 (n_2.2.2)]]))))) (.side (inR .i64 (2 : Int)) (.leaf (.back 0 [(5, .ptr 0 0), (12, .agg [.str a, .str b]), (13, .int .i64 2)] [.box [.str n, .str m, .str d, .str c, .int .i64 e]]))))) (.leaf (.ret [.ptr 0 0] [.box [.str n, .str m, .str d, .str c, .int .i64 e]]))) (by kernel_rfl) ?_
  simp only [Tree.holds, zd, inR, lo, hi, Int.toNat_natCast]
  refine ⟨fun _ => ⟨by simp, fun _ => ⟨fun h => ⟨b, ⟨by simp, h2⟩, ⟨_, rfl⟩, ?_⟩, fun h => ⟨by decide, fun _ => ?_⟩⟩⟩, fun h => (by cases h)⟩
  ·have h : e = 0 := by simpa using h
   intro r hr
   refine ⟨by decide, fun _ => ⟨by decide, fun _ => ⟨by decide, fun _ => ?_⟩⟩⟩
   rw [if_pos trivial]
   refine ⟨⟨2, by decide⟩, by decide, by simp [SBq], ?_, by kernel_rfl, Nat.zero_le _⟩
   have e2 : Pst a b 2 = ⟨n, r.1, d, r.2.1, r.2.2⟩ := by
    rw [hr]
    by_cases ha : errR a = 0
    ·simp only [Pst, ha] at hp
     simp at hp
     obtain ⟨rfl, rfl, rfl, rfl, _⟩ := hp
     by_cases hb : errR b = 0
     ·simp [Pst, qS, ha, hb]
     ·simp [Pst, qS, ha, hb]
    ·simp only [Pst] at hp
     rw [if_pos ha] at hp
     cases hp
     exact absurd h ha
   show eqH _ [(Pst a b 2).box]
   rw [e2]
   simp [Pr.box]
  ·have h : e ≠ 0 := by simpa using h
   rw [if_pos trivial]
   refine ⟨⟨2, by decide⟩, by decide, by simp [SBq], ?_, by kernel_rfl, Nat.zero_le _⟩
   have e2 : Pst a b 2 = ⟨n, m, d, c, e⟩ := by
    by_cases ha : errR a = 0
    ·simp only [Pst, ha] at hp
     simp at hp
     exact absurd hp.2.2.2.2.symm h
    ·rw [← hp]
     simp only [Pst, qS]
     rw [if_pos ha, if_pos ha]
   show eqH _ [(Pst a b 2).box]
   rw [e2]
   simp [Pr.box]
 | 2, _ =>
  obtain ⟨⟨n, m, d, c, e⟩, hp⟩ : ∃ p, Pst a b 2 = p := ⟨_, rfl⟩
  simp only [hp]
  refine zb.run hmix J4 [5, 12, 13] 400 (T := .ite false (.side ((0 : Int) ≤ 2 ∧ (2 : Int) < 2 ∧ 3 ≤ List.length [AV.str a, AV.str b]) .fail) (.leaf (.ret [.ptr 0 0] [.box [.str n, .str m, .str d, .str c, .int .i64 e]]))) (by kernel_rfl) ?_
  simp only [Tree.holds, zd, inR, lo, hi, Int.toNat_natCast]
  refine ⟨fun h => (by cases h), fun _ => ?_⟩
  have hp : qS a b = ⟨n, m, d, c, e⟩ := hp
  rw [hp] at hq
  refine RetR.out1 0 (by show 0 < 1; decide) hq (fun h => by cases h) ?_ ?_
  ·exact ⟨rfl, rfl⟩
  ·exact ⟨rfl, rfl, rfl, rfl, ⟨rfl, rfl⟩, trivial⟩
end Go.Proofs.Tryz
end

/- Rationals: sums, differences, products, comparisons. -/
section
set_option maxRecDepth 100000
open Go Go.Sx Go.Proofs Go.Nov
namespace Go.Proofs.Tryz
attribute [local simp] eqKV eqA eqA0 eqH eqB eqL eqL0
noncomputable def K17 : List Go.Sx.Item := [.code (Tryz.f17.body.getD .skip)]
noncomputable def K18 : List Go.Sx.Item := [.code (Tryz.f18.body.getD .skip)]
noncomputable def K19 : List Go.Sx.Item := [.code (Tryz.f19.body.getD .skip)]
noncomputable def K16 : List Go.Sx.Item := [.code (Tryz.f16.body.getD .skip)]
theorem wQ (a b : List UInt8) : ((qS a b).e ≠ 0 ∧ zL a b = (qS a b).e) ∨ ((qS a b).e = 0 ∧ errR a = 0 ∧ errR b = 0 ∧ (qS a b).n = numR a ∧ (qS a b).m = numR b ∧ (qS a b).d = denR a ∧ (qS a b).c = denR b) := by
 unfold qS
 by_cases ha : errR a = 0
 ·rw [if_neg (by rw [ha]; simp)]
  by_cases hb : errR b = 0
  ·rw [if_neg (by rw [hb]; simp)]
   exact .inr ⟨rfl, ha, hb, rfl, rfl, rfl, rfl⟩
  ·rw [if_pos hb]
   exact .inl ⟨hb, by unfold zL; rw [if_pos ha]⟩
 ·rw [if_pos ha]
  exact .inl ⟨ha, by unfold zL; rw [if_neg ha]⟩
theorem kP (a b : List UInt8) : (qS a b).n.length ≤ a.length ∧ (qS a b).m.length ≤ b.length ∧ (qS a b).d.length ≤ a.length + 1 ∧ (qS a b).c.length ≤ b.length + 1 := by
 have h1 := vw a
 have h2 := vw b
 have h3 := jQ a
 have h4 := jQ b
 unfold qS
 split
 ·simp
 ·split
  ·simp; omega
  ·simp only; omega
theorem kx_l (x y : List UInt8) : eqL [.str x, .str y, .ptr 0 0, .ptr 2 0] [.str x, .str y, .ptr 0 0, .ptr 2 0] := ⟨rfl, rfl, ⟨rfl, rfl⟩, ⟨rfl, rfl⟩, trivial⟩
theorem kx_b (p : Pr) : eqH [.box [.str p.n, .str p.m, .str p.d, .str p.c, .int .i64 p.e]] [.box [.str p.n, .str p.m, .str p.d, .str p.c, .int .i64 p.e]] := ⟨⟨rfl, rfl, rfl, rfl, ⟨rfl, rfl⟩, trivial⟩, trivial⟩
theorem kx_h (p : Pr) (f : Nat) : eqH [.box [.ptr 1 0], .box [.str p.n, .str p.m, .str p.d, .str p.c, .int .i64 p.e], .box [.fn f [] []]] [.box [.ptr 1 0], .box [.str p.n, .str p.m, .str p.d, .str p.c, .int .i64 p.e], .box [.fn f [] []]] := ⟨⟨⟨rfl, rfl⟩, trivial⟩, (kx_b p).1, ⟨rfl, trivial⟩, trivial⟩
theorem kx_k (f : Nat) : eqL [.ptr 0 0, .fn f [] []] [.ptr 0 0, .fn f [] []] := ⟨⟨rfl, rfl⟩, rfl, trivial⟩
theorem kx_m (x y : List UInt8) : eqL [.ptr 0 0, .str x, .str y] [.ptr 0 0, .str x, .str y] := ⟨⟨rfl, rfl⟩, rfl, rfl, trivial⟩
theorem qi (p : Pr) (o : QOp) (x y : List UInt8) {r : List UInt8 × Int} (h : r = if p.e ≠ 0 then ([], p.e) else o.op x y) : r.1.length ≤ 1001 := by
 rw [h]
 refine zdd ?_
 cases o
 ·exact uB x y
 ·exact Uw x y
 ·exact qQ x y
def GQA : Nat → Option Ctr := fun f => if f = 33 then some (zbb) else if f = 34 then some (YZ) else if f = 63 then some (VW) else if f = 38 then some (YT) else if f = 36 then some (zea) else none
theorem Jp : ∀ g c, GQA g = some c → zc Tryz.prog g c := okIf Un (okIf za0 (okIf zag (okIf zc1 (okIf zca (okNone)))))
def KI : Ctr := ctrP true (fun p : List UInt8 × List UInt8 => [.str p.1, .str p.2]) (fun p => p.1.length < 2 ^ 61 ∧ p.2.length < 2 ^ 61) (fun p r => r = addR p.1 p.2) (fun _ r => (.tup [.str r.1, .int .i64 r.2], []))
def Kz : Ctr := ctrP true (fun p : List UInt8 × List UInt8 => [.str p.1, .str p.2]) (fun p => p.1.length < 2 ^ 61 ∧ p.2.length < 2 ^ 61) (fun p r => r = subR p.1 p.2) (fun _ r => (.tup [.str r.1, .int .i64 r.2], []))
def Kj : Ctr := ctrP true (fun p : List UInt8 × List UInt8 => [.str p.1, .str p.2]) (fun p => p.1.length < 2 ^ 61 ∧ p.2.length < 2 ^ 61) (fun p r => r = mulR p.1 p.2) (fun _ r => (.tup [.str r.1, .int .i64 r.2], []))
def ze6 : Ctr := ctrP true (fun p : List UInt8 × List UInt8 => [.str p.1, .str p.2]) (fun p => p.1.length < 2 ^ 61 ∧ p.2.length < 2 ^ 61) (fun p r => r = cmpR p.1 p.2) (fun _ r => (.tup [.int .i64 r.1, .int .i64 r.2], []))
theorem QI : zc Tryz.prog 17 KI := by
 refine ze (fn := Tryz.f17) (c := Tryz.f17.body.getD .skip) rfl rfl rfl fun p hp O w0 Q hq => ?_
 obtain ⟨a, b⟩ := p
 obtain ⟨h1, h2⟩ := hp
 replace hq := hq _ rfl
 simp only at h1 h2 hq
 refine zb.run hmix Jp [] 400 (T := .ex (fun (x : List UInt8 × List UInt8) => eqL [AV.str a, AV.str b] [AV.str x.1, AV.str x.2] ∧ eqH [] [] ∧ 0 = 0 ∧ x.1.length < 4611686018427387904 ∧ x.2.length < 4611686018427387904) fun n => .all (fun (r : Pr) => r = qS n.1 n.2) fun n => .ex (fun (x : Pr × QOp) => eqL [AV.ptr 0 0, AV.fn 35 [] []] [AV.ptr 0 0, AV.fn (QOp.fn x.2) [] []] ∧ eqH [.box [AV.str n.n, AV.str n.m, AV.str n.d, AV.str n.c, AV.int .i64 n.e]] [.box [AV.str x.1.n, AV.str x.1.m, AV.str x.1.d, AV.str x.1.c, AV.int .i64 x.1.e]] ∧ 1 = 1 ∧ True) fun n => .all (fun (x : Unit) => True) fun n_1 => .ex (fun (x : Pr × QOp) => eqL [AV.ptr 0 0, AV.fn 37 [] []] [AV.ptr 0 0, AV.fn (QOp.fn x.2) [] []] ∧ eqH [.box [AV.str n.1.n, AV.str n.1.m, AV.str n.1.d, AV.str n.1.c, AV.int .i64 n.1.e]] [.box [AV.str x.1.n, AV.str x.1.m, AV.str x.1.d, AV.str x.1.c, AV.int .i64 x.1.e]] ∧ 1 = 1 ∧ True) fun n_2 => .all (fun (x : Unit) => True) fun n_3 => .side ((0 : Int) ≤ 0 ∧ (0 : Int) < 2) (.side ((0 : Int) ≤ 1 ∧ (1 : Int) < 2) (.side ((0 : Int) ≤ 1 ∧ (1 : Int) < 2) (.side ((0 : Int) ≤ 0 ∧ (0 : Int) < 2) (.side ((0 : Int) ≤ 0 ∧ (0 : Int) < 2) (.side ((0 : Int) ≤ 1 ∧ (1 : Int) < 2) (.ex (fun (x : KX) => eqL [AV.str n_2.1.n, AV.str n_2.1.c, AV.ptr 0 0, AV.ptr 2 0] [AV.str x.x, AV.str x.y, AV.ptr 0 0, AV.ptr 2 0] ∧ eqH [.box [AV.ptr 1 0], .box [AV.str n_2.1.n, AV.str n_2.1.m, AV.str n_2.1.d, AV.str n_2.1.c, AV.int .i64 n_2.1.e], .box [AV.fn (QOp.fn n.2) [] []]] [.box [AV.ptr 1 0], .box [AV.str x.p.n, AV.str x.p.m, AV.str x.p.d, AV.str x.p.c, AV.int .i64 x.p.e], .box [AV.fn (QOp.fn x.o) [] []]] ∧ 3 = 3 ∧ x.x.length < 4611686018427387904 ∧ x.y.length < 4611686018427387904) fun n => .all (fun (r : List UInt8 × Int) => r = if Pr.e n.p ≠ 0 then ([], Pr.e n.p) else QOp.op n.o n.x n.y) fun n_4 => .side (Pr.c (Pr.err n.p n_4.2) = Pr.c n_2.1) (.side (Pr.d (Pr.err n.p n_4.2) = Pr.d n_2.1) (.side (Pr.d (Pr.err n.p n_4.2) = Pr.d n_2.1) (.side (Pr.m (Pr.err n.p n_4.2) = Pr.m n_2.1) (.ex (fun (x : KX) => eqL [AV.str n_2.1.m, AV.str n_2.1.d, AV.ptr 0 0, AV.ptr 2 0] [AV.str x.x, AV.str x.y, AV.ptr 0 0, AV.ptr 2 0] ∧ eqH [.box [AV.ptr 1 0], .box [AV.str (Pr.n (Pr.err n.p n_4.2)), AV.str (Pr.m (Pr.err n.p n_4.2)), AV.str (Pr.d (Pr.err n.p n_4.2)), AV.str (Pr.c (Pr.err n.p n_4.2)), AV.int .i64 (Pr.e (Pr.err n.p n_4.2))], .box [AV.fn (QOp.fn n.o) [] []]] [.box [AV.ptr 1 0], .box [AV.str x.p.n, AV.str x.p.m, AV.str x.p.d, AV.str x.p.c, AV.int .i64 x.p.e], .box [AV.fn (QOp.fn x.o) [] []]] ∧ 3 = 3 ∧ x.x.length < 4611686018427387904 ∧ x.y.length < 4611686018427387904) fun n => .all (fun (r : List UInt8 × Int) => r = if Pr.e n.p ≠ 0 then ([], Pr.e n.p) else QOp.op n.o n.x n.y) fun n_5 => .side (Pr.c (Pr.err n.p n_5.2) = Pr.c n_2.1) (.side (Pr.d (Pr.err n.p n_5.2) = Pr.d n_2.1) (.ex (fun (x : KX) => eqL [AV.str n_4.1, AV.str n_5.1, AV.ptr 0 0, AV.ptr 2 0] [AV.str x.x, AV.str x.y, AV.ptr 0 0, AV.ptr 2 0] ∧ eqH [.box [AV.ptr 1 0], .box [AV.str (Pr.n (Pr.err n.p n_5.2)), AV.str (Pr.m (Pr.err n.p n_5.2)), AV.str (Pr.d (Pr.err n.p n_5.2)), AV.str (Pr.c (Pr.err n.p n_5.2)), AV.int .i64 (Pr.e (Pr.err n.p n_5.2))], .box [AV.fn (QOp.fn n_2.2) [] []]] [.box [AV.ptr 1 0], .box [AV.str x.p.n, AV.str x.p.m, AV.str x.p.d, AV.str x.p.c, AV.int .i64 x.p.e], .box [AV.fn (QOp.fn x.o) [] []]] ∧ 3 = 3 ∧ x.x.length < 4611686018427387904 ∧ x.y.length < 4611686018427387904) fun n_6 => .all (fun (r : List UInt8 × Int) => r = if Pr.e n_6.p ≠ 0 then ([], Pr.e n_6.p) else QOp.op n_6.o n_6.x n_6.y) fun n_7 => .side (Pr.c (Pr.err n_6.p n_7.2) = Pr.c n_2.1) (.side (Pr.d (Pr.err n_6.p n_7.2) = Pr.d n_2.1) (.ex (fun (x : KX) => eqL [AV.str n_2.1.d, AV.str n_2.1.c, AV.ptr 0 0, AV.ptr 2 0] [AV.str x.x, AV.str x.y, AV.ptr 0 0, AV.ptr 2 0] ∧ eqH [.box [AV.ptr 1 0], .box [AV.str (Pr.n (Pr.err n_6.p n_7.2)), AV.str (Pr.m (Pr.err n_6.p n_7.2)), AV.str (Pr.d (Pr.err n_6.p n_7.2)), AV.str (Pr.c (Pr.err n_6.p n_7.2)), AV.int .i64 (Pr.e (Pr.err n_6.p n_7.2))], .box [AV.fn (QOp.fn n.o) [] []]] [.box [AV.ptr 1 0], .box [AV.str x.p.n, AV.str x.p.m, AV.str x.p.d, AV.str x.p.c, AV.int .i64 x.p.e], .box [AV.fn (QOp.fn x.o) [] []]] ∧ 3 = 3 ∧ x.x.length < 4611686018427387904 ∧ x.y.length < 4611686018427387904) fun n => .all (fun (r : List UInt8 × Int) => r = if Pr.e n.p ≠ 0 then ([], Pr.e n.p) else QOp.op n.o n.x n.y) fun n_8 => .ex (fun (x : Pr × List UInt8 × List UInt8) => eqL [AV.ptr 0 0, AV.str n_7.1, AV.str n_8.1] [AV.ptr 0 0, AV.str (x.2.1), AV.str (x.2.2)] ∧ eqH [.box [AV.str (Pr.n (Pr.err n.p n_8.2)), AV.str (Pr.m (Pr.err n.p n_8.2)), AV.str (Pr.d (Pr.err n.p n_8.2)), AV.str (Pr.c (Pr.err n.p n_8.2)), AV.int .i64 (Pr.e (Pr.err n.p n_8.2))]] [.box [AV.str x.1.n, AV.str x.1.m, AV.str x.1.d, AV.str x.1.c, AV.int .i64 x.1.e]] ∧ 1 = 1 ∧ List.length (x.2.1) < 4611686018427387904 ∧ List.length (x.2.2) < 4611686018427387904) fun n_9 => .all (fun (r : List UInt8 × Int) => r = if Pr.e n_9.1 ≠ 0 then ([], Pr.e n_9.1) else q9 (n_9.2.1) (n_9.2.2)) fun n_10 => .leaf (.ret [.str n_10.1, .int .i64 n_10.2] [.box [.str n_9.1.n, .str n_9.1.m, .str n_9.1.d, .str n_9.1.c, .int .i64 n_9.1.e], .box [.ptr 0 0], .box [.fn (QOp.fn n.o) [] []], .box [.ptr 0 0], .box [.fn (QOp.fn n_6.o) [] []]])))))))))))))))) (by kernel_rfl) ?_
 simp only [Tree.holds, zd]
 refine ⟨(a, b), ⟨⟨rfl, rfl, trivial⟩, trivial, by trivial, by show a.length < _; omega, by show b.length < _; omega⟩, ⟨_, rfl⟩, ?_⟩
 intro p hp
 have hc := wQ a b
 obtain ⟨l1, l2, l3, l4⟩ := kP a b
 rw [← hp] at hc l1 l2 l3 l4
 refine ⟨(p, .mul), ⟨kx_k _, kx_b p, by trivial, trivial⟩, ⟨(), trivial⟩, ?_⟩
 intro _ _
 refine ⟨(p, .add), ⟨kx_k _, kx_b p, by trivial, trivial⟩, ⟨(), trivial⟩, ?_⟩
 intro _ _
 iterate 6 refine ⟨by decide, fun _ => ?_⟩
 refine ⟨⟨p, .mul, p.n, p.c⟩, ⟨kx_l _ _, kx_h (p) _, by trivial, by show (p.n).length < _; omega, by show (p.c).length < _; omega⟩, ⟨_, rfl⟩, ?_⟩
 intro r1 hr1
 have kr1 := qi _ _ _ _ hr1
 iterate 4 refine ⟨rfl, fun _ => ?_⟩
 refine ⟨⟨p.err r1.2, .mul, p.m, p.d⟩, ⟨kx_l _ _, kx_h (p.err r1.2) _, by trivial, by show (p.m).length < _; omega, by show (p.d).length < _; omega⟩, ⟨_, rfl⟩, ?_⟩
 intro r2 hr2
 have kr2 := qi _ _ _ _ hr2
 iterate 2 refine ⟨rfl, fun _ => ?_⟩
 refine ⟨⟨(p.err r1.2).err r2.2, .add, r1.1, r2.1⟩, ⟨kx_l _ _, kx_h ((p.err r1.2).err r2.2) _, by trivial, by show (r1.1).length < _; omega, by show (r2.1).length < _; omega⟩, ⟨_, rfl⟩, ?_⟩
 intro r3 hr3
 have kr3 := qi _ _ _ _ hr3
 iterate 2 refine ⟨rfl, fun _ => ?_⟩
 refine ⟨⟨((p.err r1.2).err r2.2).err r3.2, .mul, p.d, p.c⟩, ⟨kx_l _ _, kx_h (((p.err r1.2).err r2.2).err r3.2) _, by trivial, by show (p.d).length < _; omega, by show (p.c).length < _; omega⟩, ⟨_, rfl⟩, ?_⟩
 intro r4 hr4
 have kr4 := qi _ _ _ _ hr4
 refine ⟨((((p.err r1.2).err r2.2).err r3.2).err r4.2, r3.1, r4.1), ⟨kx_m _ _, kx_b _, by trivial, by show (r3.1).length < _; omega, by show (r4.1).length < _; omega⟩, ⟨_, rfl⟩, ?_⟩
 intro r5 hr5
 have hfin := ub hc (fun {s t} => za5 (s := s) (t := t)) hr1 hr2 hr3 hr4 hr5
 have e : r5 = addR a b := hfin
 rw [← e] at hq
 exact RetR.scal hq rfl (by simp [resV])
theorem QJ : zc Tryz.prog 18 Kz := by
 refine ze (fn := Tryz.f18) (c := Tryz.f18.body.getD .skip) rfl rfl rfl fun p hp O w0 Q hq => ?_
 obtain ⟨a, b⟩ := p
 obtain ⟨h1, h2⟩ := hp
 replace hq := hq _ rfl
 simp only at h1 h2 hq
 refine zb.run hmix Jp [] 400 (T := .ex (fun (x : List UInt8 × List UInt8) => eqL [AV.str a, AV.str b] [AV.str x.1, AV.str x.2] ∧ eqH [] [] ∧ 0 = 0 ∧ x.1.length < 4611686018427387904 ∧ x.2.length < 4611686018427387904) fun n => .all (fun (r : Pr) => r = qS n.1 n.2) fun n => .ex (fun (x : Pr × QOp) => eqL [AV.ptr 0 0, AV.fn 35 [] []] [AV.ptr 0 0, AV.fn (QOp.fn x.2) [] []] ∧ eqH [.box [AV.str n.n, AV.str n.m, AV.str n.d, AV.str n.c, AV.int .i64 n.e]] [.box [AV.str x.1.n, AV.str x.1.m, AV.str x.1.d, AV.str x.1.c, AV.int .i64 x.1.e]] ∧ 1 = 1 ∧ True) fun n => .all (fun (x : Unit) => True) fun n_1 => .ex (fun (x : Pr × QOp) => eqL [AV.ptr 0 0, AV.fn 39 [] []] [AV.ptr 0 0, AV.fn (QOp.fn x.2) [] []] ∧ eqH [.box [AV.str n.1.n, AV.str n.1.m, AV.str n.1.d, AV.str n.1.c, AV.int .i64 n.1.e]] [.box [AV.str x.1.n, AV.str x.1.m, AV.str x.1.d, AV.str x.1.c, AV.int .i64 x.1.e]] ∧ 1 = 1 ∧ True) fun n_2 => .all (fun (x : Unit) => True) fun n_3 => .side ((0 : Int) ≤ 0 ∧ (0 : Int) < 2) (.side ((0 : Int) ≤ 1 ∧ (1 : Int) < 2) (.side ((0 : Int) ≤ 1 ∧ (1 : Int) < 2) (.side ((0 : Int) ≤ 0 ∧ (0 : Int) < 2) (.side ((0 : Int) ≤ 0 ∧ (0 : Int) < 2) (.side ((0 : Int) ≤ 1 ∧ (1 : Int) < 2) (.ex (fun (x : KX) => eqL [AV.str n_2.1.n, AV.str n_2.1.c, AV.ptr 0 0, AV.ptr 2 0] [AV.str x.x, AV.str x.y, AV.ptr 0 0, AV.ptr 2 0] ∧ eqH [.box [AV.ptr 1 0], .box [AV.str n_2.1.n, AV.str n_2.1.m, AV.str n_2.1.d, AV.str n_2.1.c, AV.int .i64 n_2.1.e], .box [AV.fn (QOp.fn n.2) [] []]] [.box [AV.ptr 1 0], .box [AV.str x.p.n, AV.str x.p.m, AV.str x.p.d, AV.str x.p.c, AV.int .i64 x.p.e], .box [AV.fn (QOp.fn x.o) [] []]] ∧ 3 = 3 ∧ x.x.length < 4611686018427387904 ∧ x.y.length < 4611686018427387904) fun n => .all (fun (r : List UInt8 × Int) => r = if Pr.e n.p ≠ 0 then ([], Pr.e n.p) else QOp.op n.o n.x n.y) fun n_4 => .side (Pr.c (Pr.err n.p n_4.2) = Pr.c n_2.1) (.side (Pr.d (Pr.err n.p n_4.2) = Pr.d n_2.1) (.side (Pr.d (Pr.err n.p n_4.2) = Pr.d n_2.1) (.side (Pr.m (Pr.err n.p n_4.2) = Pr.m n_2.1) (.ex (fun (x : KX) => eqL [AV.str n_2.1.m, AV.str n_2.1.d, AV.ptr 0 0, AV.ptr 2 0] [AV.str x.x, AV.str x.y, AV.ptr 0 0, AV.ptr 2 0] ∧ eqH [.box [AV.ptr 1 0], .box [AV.str (Pr.n (Pr.err n.p n_4.2)), AV.str (Pr.m (Pr.err n.p n_4.2)), AV.str (Pr.d (Pr.err n.p n_4.2)), AV.str (Pr.c (Pr.err n.p n_4.2)), AV.int .i64 (Pr.e (Pr.err n.p n_4.2))], .box [AV.fn (QOp.fn n.o) [] []]] [.box [AV.ptr 1 0], .box [AV.str x.p.n, AV.str x.p.m, AV.str x.p.d, AV.str x.p.c, AV.int .i64 x.p.e], .box [AV.fn (QOp.fn x.o) [] []]] ∧ 3 = 3 ∧ x.x.length < 4611686018427387904 ∧ x.y.length < 4611686018427387904) fun n => .all (fun (r : List UInt8 × Int) => r = if Pr.e n.p ≠ 0 then ([], Pr.e n.p) else QOp.op n.o n.x n.y) fun n_5 => .side (Pr.c (Pr.err n.p n_5.2) = Pr.c n_2.1) (.side (Pr.d (Pr.err n.p n_5.2) = Pr.d n_2.1) (.ex (fun (x : KX) => eqL [AV.str n_4.1, AV.str n_5.1, AV.ptr 0 0, AV.ptr 2 0] [AV.str x.x, AV.str x.y, AV.ptr 0 0, AV.ptr 2 0] ∧ eqH [.box [AV.ptr 1 0], .box [AV.str (Pr.n (Pr.err n.p n_5.2)), AV.str (Pr.m (Pr.err n.p n_5.2)), AV.str (Pr.d (Pr.err n.p n_5.2)), AV.str (Pr.c (Pr.err n.p n_5.2)), AV.int .i64 (Pr.e (Pr.err n.p n_5.2))], .box [AV.fn (QOp.fn n_2.2) [] []]] [.box [AV.ptr 1 0], .box [AV.str x.p.n, AV.str x.p.m, AV.str x.p.d, AV.str x.p.c, AV.int .i64 x.p.e], .box [AV.fn (QOp.fn x.o) [] []]] ∧ 3 = 3 ∧ x.x.length < 4611686018427387904 ∧ x.y.length < 4611686018427387904) fun n_6 => .all (fun (r : List UInt8 × Int) => r = if Pr.e n_6.p ≠ 0 then ([], Pr.e n_6.p) else QOp.op n_6.o n_6.x n_6.y) fun n_7 => .side (Pr.c (Pr.err n_6.p n_7.2) = Pr.c n_2.1) (.side (Pr.d (Pr.err n_6.p n_7.2) = Pr.d n_2.1) (.ex (fun (x : KX) => eqL [AV.str n_2.1.d, AV.str n_2.1.c, AV.ptr 0 0, AV.ptr 2 0] [AV.str x.x, AV.str x.y, AV.ptr 0 0, AV.ptr 2 0] ∧ eqH [.box [AV.ptr 1 0], .box [AV.str (Pr.n (Pr.err n_6.p n_7.2)), AV.str (Pr.m (Pr.err n_6.p n_7.2)), AV.str (Pr.d (Pr.err n_6.p n_7.2)), AV.str (Pr.c (Pr.err n_6.p n_7.2)), AV.int .i64 (Pr.e (Pr.err n_6.p n_7.2))], .box [AV.fn (QOp.fn n.o) [] []]] [.box [AV.ptr 1 0], .box [AV.str x.p.n, AV.str x.p.m, AV.str x.p.d, AV.str x.p.c, AV.int .i64 x.p.e], .box [AV.fn (QOp.fn x.o) [] []]] ∧ 3 = 3 ∧ x.x.length < 4611686018427387904 ∧ x.y.length < 4611686018427387904) fun n => .all (fun (r : List UInt8 × Int) => r = if Pr.e n.p ≠ 0 then ([], Pr.e n.p) else QOp.op n.o n.x n.y) fun n_8 => .ex (fun (x : Pr × List UInt8 × List UInt8) => eqL [AV.ptr 0 0, AV.str n_7.1, AV.str n_8.1] [AV.ptr 0 0, AV.str (x.2.1), AV.str (x.2.2)] ∧ eqH [.box [AV.str (Pr.n (Pr.err n.p n_8.2)), AV.str (Pr.m (Pr.err n.p n_8.2)), AV.str (Pr.d (Pr.err n.p n_8.2)), AV.str (Pr.c (Pr.err n.p n_8.2)), AV.int .i64 (Pr.e (Pr.err n.p n_8.2))]] [.box [AV.str x.1.n, AV.str x.1.m, AV.str x.1.d, AV.str x.1.c, AV.int .i64 x.1.e]] ∧ 1 = 1 ∧ List.length (x.2.1) < 4611686018427387904 ∧ List.length (x.2.2) < 4611686018427387904) fun n_9 => .all (fun (r : List UInt8 × Int) => r = if Pr.e n_9.1 ≠ 0 then ([], Pr.e n_9.1) else q9 (n_9.2.1) (n_9.2.2)) fun n_10 => .leaf (.ret [.str n_10.1, .int .i64 n_10.2] [.box [.str n_9.1.n, .str n_9.1.m, .str n_9.1.d, .str n_9.1.c, .int .i64 n_9.1.e], .box [.ptr 0 0], .box [.fn (QOp.fn n.o) [] []], .box [.ptr 0 0], .box [.fn (QOp.fn n_6.o) [] []]])))))))))))))))) (by kernel_rfl) ?_
 simp only [Tree.holds, zd]
 refine ⟨(a, b), ⟨⟨rfl, rfl, trivial⟩, trivial, by trivial, by show a.length < _; omega, by show b.length < _; omega⟩, ⟨_, rfl⟩, ?_⟩
 intro p hp
 have hc := wQ a b
 obtain ⟨l1, l2, l3, l4⟩ := kP a b
 rw [← hp] at hc l1 l2 l3 l4
 refine ⟨(p, .mul), ⟨kx_k _, kx_b p, by trivial, trivial⟩, ⟨(), trivial⟩, ?_⟩
 intro _ _
 refine ⟨(p, .sub), ⟨kx_k _, kx_b p, by trivial, trivial⟩, ⟨(), trivial⟩, ?_⟩
 intro _ _
 iterate 6 refine ⟨by decide, fun _ => ?_⟩
 refine ⟨⟨p, .mul, p.n, p.c⟩, ⟨kx_l _ _, kx_h (p) _, by trivial, by show (p.n).length < _; omega, by show (p.c).length < _; omega⟩, ⟨_, rfl⟩, ?_⟩
 intro r1 hr1
 have kr1 := qi _ _ _ _ hr1
 iterate 4 refine ⟨rfl, fun _ => ?_⟩
 refine ⟨⟨p.err r1.2, .mul, p.m, p.d⟩, ⟨kx_l _ _, kx_h (p.err r1.2) _, by trivial, by show (p.m).length < _; omega, by show (p.d).length < _; omega⟩, ⟨_, rfl⟩, ?_⟩
 intro r2 hr2
 have kr2 := qi _ _ _ _ hr2
 iterate 2 refine ⟨rfl, fun _ => ?_⟩
 refine ⟨⟨(p.err r1.2).err r2.2, .sub, r1.1, r2.1⟩, ⟨kx_l _ _, kx_h ((p.err r1.2).err r2.2) _, by trivial, by show (r1.1).length < _; omega, by show (r2.1).length < _; omega⟩, ⟨_, rfl⟩, ?_⟩
 intro r3 hr3
 have kr3 := qi _ _ _ _ hr3
 iterate 2 refine ⟨rfl, fun _ => ?_⟩
 refine ⟨⟨((p.err r1.2).err r2.2).err r3.2, .mul, p.d, p.c⟩, ⟨kx_l _ _, kx_h (((p.err r1.2).err r2.2).err r3.2) _, by trivial, by show (p.d).length < _; omega, by show (p.c).length < _; omega⟩, ⟨_, rfl⟩, ?_⟩
 intro r4 hr4
 have kr4 := qi _ _ _ _ hr4
 refine ⟨((((p.err r1.2).err r2.2).err r3.2).err r4.2, r3.1, r4.1), ⟨kx_m _ _, kx_b _, by trivial, by show (r3.1).length < _; omega, by show (r4.1).length < _; omega⟩, ⟨_, rfl⟩, ?_⟩
 intro r5 hr5
 have hfin := ub hc (fun {s t} => Yz (s := s) (t := t)) hr1 hr2 hr3 hr4 hr5
 have e : r5 = subR a b := hfin
 rw [← e] at hq
 exact RetR.scal hq rfl (by simp [resV])
theorem QK : zc Tryz.prog 19 Kj := by
 refine ze (fn := Tryz.f19) (c := Tryz.f19.body.getD .skip) rfl rfl rfl fun p hp O w0 Q hq => ?_
 obtain ⟨a, b⟩ := p
 obtain ⟨h1, h2⟩ := hp
 replace hq := hq _ rfl
 simp only at h1 h2 hq
 refine zb.run hmix Jp [] 400 (T := .ex (fun (x : List UInt8 × List UInt8) => eqL [AV.str a, AV.str b] [AV.str x.1, AV.str x.2] ∧ eqH [] [] ∧ 0 = 0 ∧ x.1.length < 4611686018427387904 ∧ x.2.length < 4611686018427387904) fun n => .all (fun (r : Pr) => r = qS n.1 n.2) fun n => .ex (fun (x : Pr × QOp) => eqL [AV.ptr 0 0, AV.fn 35 [] []] [AV.ptr 0 0, AV.fn (QOp.fn x.2) [] []] ∧ eqH [.box [AV.str n.n, AV.str n.m, AV.str n.d, AV.str n.c, AV.int .i64 n.e]] [.box [AV.str x.1.n, AV.str x.1.m, AV.str x.1.d, AV.str x.1.c, AV.int .i64 x.1.e]] ∧ 1 = 1 ∧ True) fun n => .all (fun (x : Unit) => True) fun n_1 => .side ((0 : Int) ≤ 0 ∧ (0 : Int) < 2) (.side ((0 : Int) ≤ 1 ∧ (1 : Int) < 2) (.side ((0 : Int) ≤ 0 ∧ (0 : Int) < 2) (.side ((0 : Int) ≤ 1 ∧ (1 : Int) < 2) (.ex (fun (x : KX) => eqL [AV.str n.1.n, AV.str n.1.m, AV.ptr 0 0, AV.ptr 2 0] [AV.str x.x, AV.str x.y, AV.ptr 0 0, AV.ptr 2 0] ∧ eqH [.box [AV.ptr 1 0], .box [AV.str n.1.n, AV.str n.1.m, AV.str n.1.d, AV.str n.1.c, AV.int .i64 n.1.e], .box [AV.fn (QOp.fn n.2) [] []]] [.box [AV.ptr 1 0], .box [AV.str x.p.n, AV.str x.p.m, AV.str x.p.d, AV.str x.p.c, AV.int .i64 x.p.e], .box [AV.fn (QOp.fn x.o) [] []]] ∧ 3 = 3 ∧ x.x.length < 4611686018427387904 ∧ x.y.length < 4611686018427387904) fun n_2 => .all (fun (r : List UInt8 × Int) => r = if Pr.e n_2.p ≠ 0 then ([], Pr.e n_2.p) else QOp.op n_2.o n_2.x n_2.y) fun n_3 => .side (Pr.c (Pr.err n_2.p n_3.2) = Pr.c n.1) (.side (Pr.d (Pr.err n_2.p n_3.2) = Pr.d n.1) (.ex (fun (x : KX) => eqL [AV.str n.1.d, AV.str n.1.c, AV.ptr 0 0, AV.ptr 2 0] [AV.str x.x, AV.str x.y, AV.ptr 0 0, AV.ptr 2 0] ∧ eqH [.box [AV.ptr 1 0], .box [AV.str (Pr.n (Pr.err n_2.p n_3.2)), AV.str (Pr.m (Pr.err n_2.p n_3.2)), AV.str (Pr.d (Pr.err n_2.p n_3.2)), AV.str (Pr.c (Pr.err n_2.p n_3.2)), AV.int .i64 (Pr.e (Pr.err n_2.p n_3.2))], .box [AV.fn (QOp.fn n_2.o) [] []]] [.box [AV.ptr 1 0], .box [AV.str x.p.n, AV.str x.p.m, AV.str x.p.d, AV.str x.p.c, AV.int .i64 x.p.e], .box [AV.fn (QOp.fn x.o) [] []]] ∧ 3 = 3 ∧ x.x.length < 4611686018427387904 ∧ x.y.length < 4611686018427387904) fun n => .all (fun (r : List UInt8 × Int) => r = if Pr.e n.p ≠ 0 then ([], Pr.e n.p) else QOp.op n.o n.x n.y) fun n_4 => .ex (fun (x : Pr × List UInt8 × List UInt8) => eqL [AV.ptr 0 0, AV.str n_3.1, AV.str n_4.1] [AV.ptr 0 0, AV.str (x.2.1), AV.str (x.2.2)] ∧ eqH [.box [AV.str (Pr.n (Pr.err n.p n_4.2)), AV.str (Pr.m (Pr.err n.p n_4.2)), AV.str (Pr.d (Pr.err n.p n_4.2)), AV.str (Pr.c (Pr.err n.p n_4.2)), AV.int .i64 (Pr.e (Pr.err n.p n_4.2))]] [.box [AV.str x.1.n, AV.str x.1.m, AV.str x.1.d, AV.str x.1.c, AV.int .i64 x.1.e]] ∧ 1 = 1 ∧ List.length (x.2.1) < 4611686018427387904 ∧ List.length (x.2.2) < 4611686018427387904) fun n_5 => .all (fun (r : List UInt8 × Int) => r = if Pr.e n_5.1 ≠ 0 then ([], Pr.e n_5.1) else q9 (n_5.2.1) (n_5.2.2)) fun n_6 => .leaf (.ret [.str n_6.1, .int .i64 n_6.2] [.box [.str n_5.1.n, .str n_5.1.m, .str n_5.1.d, .str n_5.1.c, .int .i64 n_5.1.e], .box [.ptr 0 0], .box [.fn (QOp.fn n.o) [] []]])))))))) (by kernel_rfl) ?_
 simp only [Tree.holds, zd]
 refine ⟨(a, b), ⟨⟨rfl, rfl, trivial⟩, trivial, by trivial, by show a.length < _; omega, by show b.length < _; omega⟩, ⟨_, rfl⟩, ?_⟩
 intro p hp
 have hc := wQ a b
 obtain ⟨l1, l2, l3, l4⟩ := kP a b
 rw [← hp] at hc l1 l2 l3 l4
 refine ⟨(p, .mul), ⟨kx_k _, kx_b p, by trivial, trivial⟩, ⟨(), trivial⟩, ?_⟩
 intro _ _
 iterate 4 refine ⟨by decide, fun _ => ?_⟩
 refine ⟨⟨p, .mul, p.n, p.m⟩, ⟨kx_l _ _, kx_h (p) _, by trivial, by show (p.n).length < _; omega, by show (p.m).length < _; omega⟩, ⟨_, rfl⟩, ?_⟩
 intro r1 hr1
 have kr1 := qi _ _ _ _ hr1
 iterate 2 refine ⟨rfl, fun _ => ?_⟩
 refine ⟨⟨p.err r1.2, .mul, p.d, p.c⟩, ⟨kx_l _ _, kx_h (p.err r1.2) _, by trivial, by show (p.d).length < _; omega, by show (p.c).length < _; omega⟩, ⟨_, rfl⟩, ?_⟩
 intro r2 hr2
 have kr2 := qi _ _ _ _ hr2
 refine ⟨((p.err r1.2).err r2.2, r1.1, r2.1), ⟨kx_m _ _, kx_b _, by trivial, by show (r1.1).length < _; omega, by show (r2.1).length < _; omega⟩, ⟨_, rfl⟩, ?_⟩
 intro r3 hr3
 have hv : errR a = 0 → errR b = 0 → zl p.n p.m = 0 ∧ zl p.d p.c = 0 := by
  intro ha hb
  obtain ⟨a1, a2, _⟩ := qp ha
  obtain ⟨b1, b2, _⟩ := qp hb
  rcases hc with ⟨g1, g2⟩ | ⟨_, _, _, g1, g2, g3, g4⟩
  ·exact absurd g2 (by unfold zL; rw [if_pos ha, hb]; exact fun h => g1 h.symm)
  ·rw [g1, g2, g3, g4]; exact ⟨zf.2 ⟨a1, b1⟩, zf.2 ⟨a2, b2⟩⟩
 have hfin := Xv hc hr1 hr2 hr3 hv
 have e : r3 = mulR a b := by
  rw [hfin]
  unfold mulR
  rcases hc with ⟨g1, g2⟩ | ⟨_, _, _, g1, g2, g3, g4⟩
  ·rw [if_pos (by rw [g2]; exact g1), if_pos (by rw [g2]; exact g1)]
  ·rw [g1, g2, g3, g4]
 rw [← e] at hq
 exact RetR.scal hq rfl (by simp [resV])
theorem zct : zc Tryz.prog 16 ze6 := by
 refine ze (fn := Tryz.f16) (c := Tryz.f16.body.getD .skip) rfl rfl rfl fun p hp O w0 Q hq => ?_
 obtain ⟨a, b⟩ := p
 obtain ⟨h1, h2⟩ := hp
 replace hq := hq _ rfl
 simp only at h1 h2 hq
 refine zb.run hmix Jp [] 400 (T := .ex (fun (x : List UInt8 × List UInt8) => eqL [AV.str a, AV.str b] [AV.str x.1, AV.str x.2] ∧ eqH [] [] ∧ 0 = 0 ∧ x.1.length < 4611686018427387904 ∧ x.2.length < 4611686018427387904) fun n => .all (fun (r : Pr) => r = qS n.1 n.2) fun n => .ex (fun (x : Pr × QOp) => eqL [AV.ptr 0 0, AV.fn 35 [] []] [AV.ptr 0 0, AV.fn (QOp.fn x.2) [] []] ∧ eqH [.box [AV.str n.n, AV.str n.m, AV.str n.d, AV.str n.c, AV.int .i64 n.e]] [.box [AV.str x.1.n, AV.str x.1.m, AV.str x.1.d, AV.str x.1.c, AV.int .i64 x.1.e]] ∧ 1 = 1 ∧ True) fun n => .all (fun (x : Unit) => True) fun n_1 => .side ((0 : Int) ≤ 0 ∧ (0 : Int) < 2) (.side ((0 : Int) ≤ 1 ∧ (1 : Int) < 2) (.side ((0 : Int) ≤ 1 ∧ (1 : Int) < 2) (.side ((0 : Int) ≤ 0 ∧ (0 : Int) < 2) (.ex (fun (x : KX) => eqL [AV.str n.1.n, AV.str n.1.c, AV.ptr 0 0, AV.ptr 2 0] [AV.str x.x, AV.str x.y, AV.ptr 0 0, AV.ptr 2 0] ∧ eqH [.box [AV.ptr 1 0], .box [AV.str n.1.n, AV.str n.1.m, AV.str n.1.d, AV.str n.1.c, AV.int .i64 n.1.e], .box [AV.fn (QOp.fn n.2) [] []]] [.box [AV.ptr 1 0], .box [AV.str x.p.n, AV.str x.p.m, AV.str x.p.d, AV.str x.p.c, AV.int .i64 x.p.e], .box [AV.fn (QOp.fn x.o) [] []]] ∧ 3 = 3 ∧ x.x.length < 4611686018427387904 ∧ x.y.length < 4611686018427387904) fun n_2 => .all (fun (r : List UInt8 × Int) => r = if Pr.e n_2.p ≠ 0 then ([], Pr.e n_2.p) else QOp.op n_2.o n_2.x n_2.y) fun n_3 => .side (Pr.d (Pr.err n_2.p n_3.2) = Pr.d n.1) (.side (Pr.m (Pr.err n_2.p n_3.2) = Pr.m n.1) (.ex (fun (x : KX) => eqL [AV.str n.1.m, AV.str n.1.d, AV.ptr 0 0, AV.ptr 2 0] [AV.str x.x, AV.str x.y, AV.ptr 0 0, AV.ptr 2 0] ∧ eqH [.box [AV.ptr 1 0], .box [AV.str (Pr.n (Pr.err n_2.p n_3.2)), AV.str (Pr.m (Pr.err n_2.p n_3.2)), AV.str (Pr.d (Pr.err n_2.p n_3.2)), AV.str (Pr.c (Pr.err n_2.p n_3.2)), AV.int .i64 (Pr.e (Pr.err n_2.p n_3.2))], .box [AV.fn (QOp.fn n_2.o) [] []]] [.box [AV.ptr 1 0], .box [AV.str x.p.n, AV.str x.p.m, AV.str x.p.d, AV.str x.p.c, AV.int .i64 x.p.e], .box [AV.fn (QOp.fn x.o) [] []]] ∧ 3 = 3 ∧ x.x.length < 4611686018427387904 ∧ x.y.length < 4611686018427387904) fun n => .all (fun (r : List UInt8 × Int) => r = if Pr.e n.p ≠ 0 then ([], Pr.e n.p) else QOp.op n.o n.x n.y) fun n_4 => .ite (!decide (Pr.e (Pr.err n.p n_4.2) = (0 : Int))) (.leaf (.ret [.int .i64 0, .int .i64 (Pr.e (Pr.err n.p n_4.2))] [.box [.str (Pr.n (Pr.err n.p n_4.2)), .str (Pr.m (Pr.err n.p n_4.2)), .str (Pr.d (Pr.err n.p n_4.2)), .str (Pr.c (Pr.err n.p n_4.2)), .int .i64 (Pr.e (Pr.err n.p n_4.2))], .box [.ptr 0 0], .box [.fn (QOp.fn n.o) [] []]])) (.ex (fun (x : List UInt8 × List UInt8) => eqL [AV.str n_3.1, AV.str n_4.1] [AV.str x.1, AV.str x.2] ∧ x.1.length < 4611686018427387904 ∧ x.2.length < 4611686018427387904) fun n_5 => .all (fun (r : Int × Int) => r = wP n_5.1 n_5.2) fun n_6 => .leaf (.ret [.int .i64 n_6.1, .int .i64 n_6.2] [.box [.str (Pr.n (Pr.err n.p n_4.2)), .str (Pr.m (Pr.err n.p n_4.2)), .str (Pr.d (Pr.err n.p n_4.2)), .str (Pr.c (Pr.err n.p n_4.2)), .int .i64 (Pr.e (Pr.err n.p n_4.2))], .box [.ptr 0 0], .box [.fn (QOp.fn n.o) [] []]]))))))))) (by kernel_rfl) ?_
 simp only [Tree.holds, zd]
 refine ⟨(a, b), ⟨⟨rfl, rfl, trivial⟩, trivial, by trivial, by show a.length < _; omega, by show b.length < _; omega⟩, ⟨_, rfl⟩, ?_⟩
 intro p hp
 have hc := wQ a b
 obtain ⟨l1, l2, l3, l4⟩ := kP a b
 rw [← hp] at hc l1 l2 l3 l4
 refine ⟨(p, .mul), ⟨kx_k _, kx_b p, by trivial, trivial⟩, ⟨(), trivial⟩, ?_⟩
 intro _ _
 iterate 4 refine ⟨by decide, fun _ => ?_⟩
 refine ⟨⟨p, .mul, p.n, p.c⟩, ⟨kx_l _ _, kx_h (p) _, by trivial, by show (p.n).length < _; omega, by show (p.c).length < _; omega⟩, ⟨_, rfl⟩, ?_⟩
 intro r1 hr1
 have kr1 := qi _ _ _ _ hr1
 iterate 2 refine ⟨rfl, fun _ => ?_⟩
 refine ⟨⟨p.err r1.2, .mul, p.m, p.d⟩, ⟨kx_l _ _, kx_h (p.err r1.2) _, by trivial, by show (p.m).length < _; omega, by show (p.d).length < _; omega⟩, ⟨_, rfl⟩, ?_⟩
 intro r2 hr2
 have kr2 := qi _ _ _ _ hr2
 have hfin := XA hc hr1 hr2
 refine ⟨fun h => ?_, fun h => ⟨(r1.1, r2.1), ⟨⟨rfl, rfl, trivial⟩, by show r1.1.length < _; omega, by show r2.1.length < _; omega⟩, ⟨_, rfl⟩, ?_⟩⟩
 ·have h : r2.2 ≠ 0 := by
   intro h0
   have h' : (!decide (r2.2 = 0)) = true := h
   rw [h0] at h'; cases h'
  rw [if_pos h] at hfin
  rw [← hfin] at hq
  exact RetR.scal hq rfl (by simp [resV, Pr.err])
 ·have h : r2.2 = 0 := by
   have h' : (!decide (r2.2 = 0)) = false := h
   cases hd : decide (r2.2 = 0) with
   | true => exact of_decide_eq_true hd
   | false => rw [hd] at h'; cases h'
  rw [if_neg (by rw [h]; simp)] at hfin
  rintro _ rfl
  rw [← hfin] at hq
  exact RetR.scal hq rfl (by simp [resV])
end Go.Proofs.Tryz
end

/- Orders of what is known. -/
section
namespace Go.Nov
open Go.Sx
def cmpS (s t : List UInt8) : Int := if Op.bytesLess s t then -1 else if s = t then 0 else 1
def cmpI (x y : Int) : Int := if x < y then -1 else if y < x then 1 else 0
def orI : List Int → Int
 | [] => 0
 | x :: l => if x = 0 then orI l else x
structure Fx where
 name : List UInt8
 date : Int
 value : List UInt8
structure Ch where
 zM : List UInt8
 name : List UInt8
 date : Int
 first : Bool
abbrev Fx.nil : Fx := ⟨[], 0, []⟩
abbrev Ch.nil : Ch := ⟨[], [], 0, false⟩
def Fx.cell (f : Fx) : Nat → AV
 | 0 => .str f.name
 | 1 => .int .i64 f.date
 | 2 => .str f.value
 | _ => .undef
def Ch.cell (c : Ch) : Nat → AV
 | 0 => .str c.zM
 | 1 => .str c.name
 | 2 => .int .i64 c.date
 | 3 => .bool c.first
 | _ => .undef
def fxG (l : List Fx) : Nat → Nat → AV := fun j => (l.getD j Fx.nil).cell
def chG (l : List Ch) : Nat → Nat → AV := fun j => (l.getD j Ch.nil).cell
def Fx.av (f : Fx) : AV := .agg [.str f.name, .int .i64 f.date, .str f.value]
def Ch.av (c : Ch) : AV := .agg [.str c.zM, .str c.name, .int .i64 c.date, .bool c.first]
def fxS (l : List Fx) : AV := .sl l.length 3 (fxG l)
def chS (l : List Ch) : AV := .sl l.length 4 (chG l)
def envA (f : List Fx) (c : List Ch) : AV := .agg [fxS f, chS c]
def cmpF (a b : Fx) : Int := if cmpS a.name b.name = 0 then cmpI a.date b.date else cmpS a.name b.name
def cmpC (a b : Ch) : Int := if cmpS a.zM b.zM = 0 then (if cmpS a.name b.name = 0 then cmpI a.date b.date else cmpS a.name b.name) else cmpS a.zM b.zM
end Go.Nov
namespace Go.Nov
def okF (f : Fx) : Bool := qe f.name && dayB f.date && decide (errR f.value = 0)
def okC (c : Ch) : Bool := qe c.zM && qe c.name && dayB c.date
def idxB {α : Type} (p : α → Bool) (l : List α) : Int := if l.findIdx p < l.length then (l.findIdx p : Int) else -1
theorem JP {α : Type} (p : α → Bool) (l : List α) : decide (0 ≤ idxB p l) = l.any p := by
 unfold idxB
 by_cases h : l.findIdx p < l.length
 ·rw [if_pos h]
  have : l.any p = true := by
   rw [List.any_eq_true]
   exact ⟨_, List.getElem_mem h, List.findIdx_getElem (w := h)⟩
  rw [this]; simp
 ·rw [if_neg h]
  have : l.any p = false := by
   rw [List.any_eq_false]
   intro x hx hpx
   exact h (List.findIdx_lt_length_of_exists ⟨x, hx, hpx⟩)
  rw [this]; rfl
theorem Jy {α : Type} {p : α → Bool} {l : List α} {z : α} {i : Nat} (hi : i < l.length) (h : p (l.getD i z) = true) (hb : ∀ j, j < i → p (l.getD j z) = false) : idxB p l = i := by
 have hlt : l.findIdx p < l.length := List.findIdx_lt_length_of_exists ⟨l[i], List.getElem_mem hi, by simpa [List.getD, hi] using h⟩
 have e : l.findIdx p = i := by
  rcases Nat.lt_trichotomy (l.findIdx p) i with h1 | h1 | h1
  ·have h2 := List.findIdx_getElem (w := hlt)
   have h3 := hb _ h1
   simp only [List.getD, List.getElem?_eq_getElem hlt, Option.getD_some] at h3
   rw [h2] at h3; cases h3
  ·exact h1
  ·have h2 := List.not_of_lt_findIdx h1
   simp only [List.getD, List.getElem?_eq_getElem hi, Option.getD_some] at h
   exact absurd h (by simpa using h2)
 unfold idxB
 rw [if_pos hlt, e]
theorem yA {α : Type} {p : α → Bool} {l : List α} {z : α} (hb : ∀ j, j < l.length → p (l.getD j z) = false) : idxB p l = -1 := by
 unfold idxB
 rw [if_neg]
 intro h
 have h2 := List.findIdx_getElem (w := h)
 have h3 := hb _ h
 simp only [List.getD, List.getElem?_eq_getElem h, Option.getD_some] at h3
 rw [h2] at h3; cases h3
end Go.Nov
namespace Go.Nov
def ordB {α : Type} (c : α → α → Int) (z : α) (l : List α) : Bool := (List.range (l.length - 1)).all fun i => decide (c (l.getD i z) (l.getD (i + 1) z) < 0)
theorem x6 {α : Type} {c : α → α → Int} {z : α} {l : List α} (h : ∀ j, j + 1 < l.length → c (l.getD j z) (l.getD (j + 1) z) < 0) : ordB c z l = true := by
 simp only [ordB, List.all_eq_true, List.mem_range, decide_eq_true_eq]
 exact fun j hj => h j (by omega)
theorem xO {α : Type} {c : α → α → Int} {z : α} {l : List α} {j : Nat} (hj : j + 1 < l.length) (h : ¬ c (l.getD j z) (l.getD (j + 1) z) < 0) : ordB c z l = false := by
 simp only [ordB, List.all_eq_false, List.mem_range]
 exact ⟨j, by omega, by simpa using h⟩
def errE (f : List Fx) (c : List Ch) : Int := if 1000 < f.length ∨ 1000 < c.length then 4 else if (f.all okF && c.all okC && ordB cmpF Fx.nil f && ordB cmpC Ch.nil c) = true then 0 else 8
end Go.Nov
namespace Go.Nov
theorem KN {x y : Int} : cmpI x y < 0 ↔ x < y := by
 unfold cmpI
 split
 ·rename_i h; exact ⟨fun _ => h, fun _ => by decide⟩
 ·rename_i h
  split
  ·exact ⟨fun h2 => by omega, fun h2 => absurd h2 h⟩
  ·exact ⟨fun h2 => by omega, fun h2 => absurd h2 h⟩
theorem yR {s t : List UInt8} {n : Int} {b : Bool} (hb : b = decide (n < 0)) : (bif Op.bytesLess s t then true else bif decide (s = t) then b else false) = decide ((if cmpS s t = 0 then n else cmpS s t) < 0) := by
 unfold cmpS
 cases Op.bytesLess s t with
 | true => rfl
 | false =>
  by_cases h : s = t
  ·simp [h, hb]
  ·simp [h]
end Go.Nov
namespace Go.Nov
end Go.Nov
end

/- The order of what is known. -/
section
set_option maxRecDepth 100000
open Go Go.Sx Go.Proofs Go.Nov
namespace Go.Proofs.Tryz
attribute [local simp] eqKV eqA eqA0 eqH eqB eqL eqL0
noncomputable def K127 : List Go.Sx.Item := [.code (Tryz.f127.body.getD .skip)]
noncomputable def K128 : List Go.Sx.Item := [.code (Tryz.f128.body.getD .skip)]
noncomputable def K100 : List Go.Sx.Item := [.code (Tryz.f100.body.getD .skip)]
noncomputable def K101 : List Go.Sx.Item := [.code (Tryz.f101.body.getD .skip)]
noncomputable def K99 : List Go.Sx.Item := [.code (Tryz.f99.body.getD .skip)]
noncomputable def K57 : List Go.Sx.Item := [.code (Tryz.f57.body.getD .skip)]
noncomputable def K76 : List Go.Sx.Item := [.code (Tryz.f76.body.getD .skip)]
def nanS : Ctr := ctrP true (fun s : List UInt8 => [.str s]) (fun _ => True) (fun s r => r = false) (fun _ (r : Bool) => (.bool r, []))
def nanI : Ctr := ctrP true (fun x : Int => [.int .i64 x]) (fun _ => True) (fun s r => r = false) (fun _ (r : Bool) => (.bool r, []))
theorem zd7 : zc Tryz.prog 127 nanS := by
 refine ze (fn := Tryz.f127) (c := Tryz.f127.body.getD .skip) rfl rfl rfl fun s hs O w0 Q hq => ?_
 replace hq := hq _ rfl
 refine zb.run hmix zo [] 400 (T := .leaf (.ret [.bool !decide (s = s)] [])) (by kernel_rfl) ?_
 simp only [Tree.holds, zd]
 exact RetR.scal hq rfl (by simp [resV])
theorem zcs : zc Tryz.prog 128 nanI := by
 refine ze (fn := Tryz.f128) (c := Tryz.f128.body.getD .skip) rfl rfl rfl fun s hs O w0 Q hq => ?_
 replace hq := hq _ rfl
 refine zb.run hmix zo [] 400 (T := .leaf (.ret [.bool !decide (s = s)] [])) (by kernel_rfl) ?_
 simp only [Tree.holds, zd]
 exact RetR.scal hq rfl (by simp [resV])
def zed : Ctr := ctrP true (fun p : List UInt8 × List UInt8 => [.str p.1, .str p.2]) (fun _ => True) (fun p r => r = cmpS p.1 p.2) (fun _ (r : Int) => (.int .i64 r, []))
def zeg : Ctr := ctrP true (fun p : Int × Int => [.int .i64 p.1, .int .i64 p.2]) (fun _ => True) (fun p r => r = cmpI p.1 p.2) (fun _ (r : Int) => (.int .i64 r, []))
def GN2 : Nat → Option Ctr := fun f => if f = 127 then some (nanS) else if f = 128 then some (nanI) else none
theorem za7 : ∀ g c, GN2 g = some c → zc Tryz.prog g c := okIf zd7 (okIf zcs (okNone))
theorem zcx : zc Tryz.prog 100 zed := by
 refine ze (fn := Tryz.f100) (c := Tryz.f100.body.getD .skip) rfl rfl rfl fun p hs O w0 Q hq => ?_
 obtain ⟨s, t⟩ := p
 replace hq := hq _ rfl
 simp only at hq
 refine zb.run hmix za7 [] 400 (T := .ex (fun (x : List UInt8) => eqL [AV.str s] [AV.str x] ∧ True) fun n => .all (fun (r : Bool) => r = false) fun n => .ex (fun (x : List UInt8) => eqL [AV.str t] [AV.str x] ∧ True) fun n_1 => .all (fun (r : Bool) => r = false) fun n_2 => .ite n (.ite n_2 (.leaf (.ret [.int .i64 0] [])) (.leaf (.ret [.int .i64 (-1 : Int)] []))) (.ite n_2 (.leaf (.ret [.int .i64 1] [])) (.ite (Op.bytesLess s t) (.leaf (.ret [.int .i64 (-1 : Int)] [])) (.ite (!(Op.bytesLess s t || decide (s = t))) (.leaf (.ret [.int .i64 1] [])) (.leaf (.ret [.int .i64 0] [])))))) (by kernel_rfl) ?_
 simp only [Tree.holds, zd]
 refine ⟨s, ⟨by simp, trivial⟩, ⟨_, rfl⟩, ?_⟩
 rintro _ rfl
 refine ⟨t, ⟨by simp, trivial⟩, ⟨_, rfl⟩, ?_⟩
 rintro _ rfl
 refine ⟨fun h => (by cases h), fun _ => ⟨fun h => (by cases h), fun _ => ⟨fun h => ?_, fun h => ⟨fun h2 => ?_, fun h2 => ?_⟩⟩⟩⟩
 ·have : cmpS s t = -1 := by simp [cmpS, h]
  rw [this] at hq; exact RetR.scal hq rfl (by simp [resV])
 ·have h2 : s ≠ t := by simpa [h] using h2
  have : cmpS s t = 1 := by simp [cmpS, h, h2]
  rw [this] at hq; exact RetR.scal hq rfl (by simp [resV])
 ·have h2 : s = t := by simpa [h] using h2
  subst h2
  have : cmpS s s = 0 := by simp [cmpS, h]
  rw [this] at hq; exact RetR.scal hq rfl (by simp [resV])
theorem zcd : zc Tryz.prog 101 zeg := by
 refine ze (fn := Tryz.f101) (c := Tryz.f101.body.getD .skip) rfl rfl rfl fun p hs O w0 Q hq => ?_
 obtain ⟨s, t⟩ := p
 replace hq := hq _ rfl
 simp only at hq
 refine zb.run hmix za7 [] 400 (T := .ex (fun (x : Int) => eqL [AV.int .i64 s] [AV.int .i64 x] ∧ True) fun n => .all (fun (r : Bool) => r = false) fun n => .ex (fun (x : Int) => eqL [AV.int .i64 t] [AV.int .i64 x] ∧ True) fun n_1 => .all (fun (r : Bool) => r = false) fun n_2 => .ite n (.ite n_2 (.leaf (.ret [.int .i64 0] [])) (.leaf (.ret [.int .i64 (-1 : Int)] []))) (.ite n_2 (.leaf (.ret [.int .i64 1] [])) (.ite (decide (s < t)) (.leaf (.ret [.int .i64 (-1 : Int)] [])) (.ite (decide (t < s)) (.leaf (.ret [.int .i64 1] [])) (.leaf (.ret [.int .i64 0] [])))))) (by kernel_rfl) ?_
 simp only [Tree.holds, zd]
 refine ⟨s, ⟨by simp, trivial⟩, ⟨_, rfl⟩, ?_⟩
 rintro _ rfl
 refine ⟨t, ⟨by simp, trivial⟩, ⟨_, rfl⟩, ?_⟩
 rintro _ rfl
 refine ⟨fun h => (by cases h), fun _ => ⟨fun h => (by cases h), fun _ => ⟨fun h => ?_, fun h => ⟨fun h2 => ?_, fun h2 => ?_⟩⟩⟩⟩
 ·have h := of_decide_eq_true h
  have : cmpI s t = -1 := by simp [cmpI, h]
  rw [this] at hq; exact RetR.scal hq rfl (by simp [resV])
 ·have h := of_decide_eq_false h
  have h2 := of_decide_eq_true h2
  have : cmpI s t = 1 := by simp [cmpI, h, h2]
  rw [this] at hq; exact RetR.scal hq rfl (by simp [resV])
 ·have h := of_decide_eq_false h
  have h2 := of_decide_eq_false h2
  have : cmpI s t = 0 := by simp [cmpI, h, h2]
  rw [this] at hq; exact RetR.scal hq rfl (by simp [resV])
def orC : Ctr := ctrP true (fun l : List Int => [.sl l.length 1 (fun j _ => .int .i64 (l.getD j 0))]) (fun l => l.length < 2 ^ 40) (fun l r => r = orI l) (fun _ (r : Int) => (.int .i64 r, []))
def SOr (l : List Int) (i : Nat) : KV := [(3, .int .i64 0), (6, .sl l.length 1 (fun j _ => .int .i64 (l.getD j 0))), (7, .int .i64 (l.length : Int)), (8, .int .i64 (i : Int))]
theorem zg8 : zc Tryz.prog 99 orC := by
 refine ze (fn := Tryz.f99) (c := Tryz.f99.body.getD .skip) rfl rfl rfl fun l hl O w0 Q hq => ?_
 replace hq := hq _ rfl
 refine zb.run hmix zo [3, 6, 7, 8] 400 (T := .leaf (.loop (Prod.fst (lps K99 0)) (Prod.snd (lps K99 0)) [(3, .int .i64 0), (6, .sl l.length 1 fun (j x : Nat) => .int .i64 (List.getD l j (0 : Int))), (7, .int .i64 l.length), (8, .int .i64 0)] [])) (by kernel_rfl) ?_
 simp only [Tree.holds, zd]
 refine zb.loop (ι := {i : Nat // i ≤ l.length ∧ orI (l.drop i) = orI l}) (fun i => SOr l i.1) (fun _ => []) (fun i => l.length - i.1) ⟨0, Nat.zero_le _, rfl⟩ 0 ?_ ?_ (by kernel_rfl)
 ·exact ⟨by simp [SOr, za], by simp, by kernel_rfl, Nat.zero_le _⟩
 ·rintro ⟨i, hil, hio⟩
  refine zb.run hmix zo [3, 6, 7, 8] 400 (T := .ite (decide ((↑i : Int) < l.length)) (.side ((0 : Int) ≤ i ∧ (↑i : Int) < l.length) (.ite (!decide (List.getD l (Int.toNat (↑i : Int)) (0 : Int) = 0)) (.leaf (.ret [.int .i64 (List.getD l (Int.toNat (↑i : Int)) (0 : Int))] [])) (.side (inR .i64 ((↑i : Int) + (1 : Int))) (.leaf (.back 0 [(3, .int .i64 0), (6, .sl l.length 1 fun (j x : Nat) => .int .i64 (List.getD l j (0 : Int))), (7, .int .i64 l.length), (8, .int .i64 ((↑i : Int) + (1 : Int)))] []))))) (.leaf (.ret [.int .i64 0] []))) (by kernel_rfl) ?_
  simp only [Tree.holds, zd, inR, lo, hi, Int.toNat_natCast]
  refine ⟨fun hlt => ?_, fun hge => ?_⟩
  ·have hlt : i < l.length := by have := of_decide_eq_true hlt; omega
   have hd : l.drop i = l.getD i 0 :: l.drop (i + 1) := by
    rw [List.drop_eq_getElem_cons hlt]; simp [List.getD, hlt]
   rw [hd] at hio
   refine ⟨by omega, fun _ => ⟨fun h => ?_, fun h => ⟨by omega, fun _ => ?_⟩⟩⟩
   ·have h : l.getD i 0 ≠ 0 := by simpa using h
    have : orI l = l.getD i 0 := by rw [← hio]; simp only [orI]; rw [if_neg h]
    rw [this] at hq; exact RetR.scal hq rfl (by simp [resV])
   ·have h : l.getD i 0 = 0 := by simpa using h
    rw [if_pos trivial]
    refine ⟨⟨i + 1, hlt, ?_⟩, by show l.length - (i + 1) < l.length - i; omega, by simp [SOr, za], by simp, by kernel_rfl, Nat.zero_le _⟩
    rw [← hio]; simp only [orI]; rw [if_pos h]
  ·have hge : i = l.length := by have := of_decide_eq_false hge; omega
   subst hge
   rw [List.drop_length] at hio
   rw [← hio] at hq; exact RetR.scal hq rfl (by simp [resV, orI])
def Z5 : Ctr := ctrP true (fun p : Fx × Fx => [p.1.av, p.2.av]) (fun _ => True) (fun p r => r = cmpF p.1 p.2) (fun _ (r : Int) => (.int .i64 r, []))
def Zs : Ctr := ctrP true (fun p : Ch × Ch => [p.1.av, p.2.av]) (fun _ => True) (fun p r => r = cmpC p.1 p.2) (fun _ (r : Int) => (.int .i64 r, []))
def GN3 : Nat → Option Ctr := fun f => if f = 100 then some (zed) else if f = 101 then some (zeg) else if f = 99 then some (orC) else none
theorem Uo : ∀ g c, GN3 g = some c → zc Tryz.prog g c := okIf zcx (okIf zcd (okIf zg8 (okNone)))
theorem Yt (x y : Int) : eqG 2 1 (zj (zk 1 [.int .i64 x, .int .i64 y]) 0) (fun j _ => .int .i64 ([x, y].getD j 0)) := by
 intro j o hj ho
 have ho : o = 0 := by omega
 subst ho
 rcases j with _ | _ | j
 ·rfl
 ·rfl
 ·omega
theorem Xq (x y z : Int) : eqG 3 1 (zj (zk 1 [.int .i64 x, .int .i64 y, .int .i64 z]) 0) (fun j _ => .int .i64 ([x, y, z].getD j 0)) := by
 intro j o hj ho
 have ho : o = 0 := by omega
 subst ho
 rcases j with _ | _ | _ | j
 ·rfl
 ·rfl
 ·rfl
 ·omega
theorem Z9 : zc Tryz.prog 57 Z5 := by
 refine ze (fn := Tryz.f57) (c := Tryz.f57.body.getD .skip) rfl rfl rfl fun p hs O w0 Q hq => ?_
 obtain ⟨⟨a, d, v⟩, ⟨b, e, u⟩⟩ := p
 replace hq := hq _ rfl
 simp only at hq
 refine zb.run hmix Uo [] 400 (T := .ex (fun (x : List UInt8 × List UInt8) => eqL [AV.str a, AV.str b] [AV.str x.1, AV.str x.2] ∧ True) fun n => .all (fun (r : Int) => r = cmpS n.1 n.2) fun n => .ex (fun (x : Int × Int) => eqL [AV.int .i64 d, AV.int .i64 e] [AV.int .i64 x.1, AV.int .i64 x.2] ∧ True) fun n_1 => .all (fun (r : Int) => r = cmpI n_1.1 n_1.2) fun n_2 => .ex (fun (x : List Int) => eqL [AV.sl 2 1 (zj (zk 1 [AV.int .i64 n, AV.int .i64 n_2]) 0)] [AV.sl x.length 1 fun (j x_1 : Nat) => AV.int .i64 (List.getD x j (0 : Int))] ∧ x.length < 1099511627776) fun n_3 => .all (fun (r : Int) => r = orI n_3) fun n_4 => .leaf (.ret [.int .i64 n_4] [.box [.str a, .int .i64 d, .str v], .box [.str b, .int .i64 e, .str u], .arr 2 1 (zk 1 [.int .i64 n, .int .i64 n_2])])) (by kernel_rfl) ?_
 simp only [Tree.holds, zd]
 refine ⟨(a, b), ⟨by simp, trivial⟩, ⟨_, rfl⟩, ?_⟩
 rintro _ rfl
 refine ⟨(d, e), ⟨by simp, trivial⟩, ⟨_, rfl⟩, ?_⟩
 rintro _ rfl
 refine ⟨[cmpS a b, cmpI d e], ⟨⟨⟨rfl, rfl, Yt _ _⟩, trivial⟩, by simp⟩, ⟨_, rfl⟩, ?_⟩
 rintro _ rfl
 have : orI [cmpS a b, cmpI d e] = cmpF ⟨a, d, v⟩ ⟨b, e, u⟩ := by
  simp only [orI, cmpF]
  by_cases h : cmpS a b = 0
  ·simp only [h, if_true]; split <;> simp_all
  ·simp only [if_neg h]
 rw [this]
 exact RetR.scal hq rfl (by simp [resV])
theorem uP : zc Tryz.prog 76 Zs := by
 refine ze (fn := Tryz.f76) (c := Tryz.f76.body.getD .skip) rfl rfl rfl fun p hs O w0 Q hq => ?_
 obtain ⟨⟨a, d, v, f⟩, ⟨b, e, u, g⟩⟩ := p
 replace hq := hq _ rfl
 simp only at hq
 refine zb.run hmix Uo [] 400 (T := .ex (fun (x : List UInt8 × List UInt8) => eqL [AV.str a, AV.str b] [AV.str x.1, AV.str x.2] ∧ True) fun n => .all (fun (r : Int) => r = cmpS n.1 n.2) fun n => .ex (fun (x : List UInt8 × List UInt8) => eqL [AV.str d, AV.str e] [AV.str x.1, AV.str x.2] ∧ True) fun n_1 => .all (fun (r : Int) => r = cmpS n_1.1 n_1.2) fun n_2 => .ex (fun (x : Int × Int) => eqL [AV.int .i64 v, AV.int .i64 u] [AV.int .i64 x.1, AV.int .i64 x.2] ∧ True) fun n_3 => .all (fun (r : Int) => r = cmpI n_3.1 n_3.2) fun n_4 => .ex (fun (x : List Int) => eqL [AV.sl 3 1 (zj (zk 1 [AV.int .i64 n, AV.int .i64 n_2, AV.int .i64 n_4]) 0)] [AV.sl x.length 1 fun (j x_1 : Nat) => AV.int .i64 (List.getD x j (0 : Int))] ∧ x.length < 1099511627776) fun n_5 => .all (fun (r : Int) => r = orI n_5) fun n_6 => .leaf (.ret [.int .i64 n_6] [.box [.str a, .str d, .int .i64 v, .bool f], .box [.str b, .str e, .int .i64 u, .bool g], .arr 3 1 (zk 1 [.int .i64 n, .int .i64 n_2, .int .i64 n_4])])) (by kernel_rfl) ?_
 simp only [Tree.holds, zd]
 refine ⟨(a, b), ⟨by simp, trivial⟩, ⟨_, rfl⟩, ?_⟩
 rintro _ rfl
 refine ⟨(d, e), ⟨by simp, trivial⟩, ⟨_, rfl⟩, ?_⟩
 rintro _ rfl
 refine ⟨(v, u), ⟨by simp, trivial⟩, ⟨_, rfl⟩, ?_⟩
 rintro _ rfl
 refine ⟨[cmpS a b, cmpS d e, cmpI v u], ⟨⟨⟨rfl, rfl, Xq _ _ _⟩, trivial⟩, by simp⟩, ⟨_, rfl⟩, ?_⟩
 rintro _ rfl
 have : orI [cmpS a b, cmpS d e, cmpI v u] = cmpC ⟨a, d, v, f⟩ ⟨b, e, u, g⟩ := by
  simp only [orI, cmpC]
  by_cases h : cmpS a b = 0
  ·simp only [h, if_true]
   by_cases h2 : cmpS d e = 0
   ·simp only [h2, if_true]; split <;> simp_all
   ·simp only [if_neg h2]
  ·simp only [if_neg h]
 rw [this]
 exact RetR.scal hq rfl (by simp [resV])
end Go.Proofs.Tryz
end

/- What is known: the checks. -/
section
set_option maxRecDepth 100000
open Go Go.Sx Go.Proofs Go.Nov
namespace Go.Proofs.Tryz
attribute [local simp] eqKV eqA eqA0 eqH eqB eqL eqL0
noncomputable def K70 : List Go.Sx.Item := [.code (Tryz.f70.body.getD .skip)]
noncomputable def K71 : List Go.Sx.Item := [.code (Tryz.f71.body.getD .skip)]
noncomputable def K109 : List Go.Sx.Item := [.code (Tryz.f109.body.getD .skip)]
noncomputable def K72 : List Go.Sx.Item := [.code (Tryz.f72.body.getD .skip)]
noncomputable def K110 : List Go.Sx.Item := [.code (Tryz.f110.body.getD .skip)]
noncomputable def K73 : List Go.Sx.Item := [.code (Tryz.f73.body.getD .skip)]
noncomputable def K74 : List Go.Sx.Item := [.code (Tryz.f74.body.getD .skip)]
noncomputable def K75 : List Go.Sx.Item := [.code (Tryz.f75.body.getD .skip)]
noncomputable def K40 : List Go.Sx.Item := [.code (Tryz.f40.body.getD .skip)]
def xk (f : Fx) : Prop := f.name.length < 2 ^ 40 ∧ f.value.length < 2 ^ 40
def kF (c : Ch) : Prop := c.zM.length < 2 ^ 40 ∧ c.name.length < 2 ^ 40
def zdy : Ctr := ctrP true (fun f : Fx => [f.av]) xk (fun f r => r = !okF f) (fun _ (r : Bool) => (.bool r, []))
def zds : Ctr := ctrP true (fun c : Ch => [c.av]) kF (fun c r => r = !okC c) (fun _ (r : Bool) => (.bool r, []))
def GE1 : Nat → Option Ctr := fun f => if f = 54 then some (uh) else if f = 41 then some (wS) else if f = 55 then some (uy) else none
theorem zbj : ∀ g c, GE1 g = some c → zc Tryz.prog g c := okIf Xe (okIf yy (okIf yQ (okNone)))
theorem zcj : zc Tryz.prog 70 zdy := by
 refine ze (fn := Tryz.f70) (c := Tryz.f70.body.getD .skip) rfl rfl rfl fun f hs O w0 Q hq => ?_
 obtain ⟨a, d, v⟩ := f
 obtain ⟨h1, h2⟩ := hs
 replace hq := hq _ rfl
 simp only [okF] at hq h1 h2
 refine zb.run hmix zbj [] 400 (T := .ex (fun (x : List UInt8) => eqL [AV.str a] [AV.str x] ∧ x.length < 4611686018427387904) fun n => .all (fun (r : Bool) => r = qe n) fun n => .ex (fun (x : Int) => (!n) = false → eqL [AV.int .i64 d] [AV.int .i64 x] ∧ True) fun n_1 => .all (fun (x : Bool) => (!n) = false → x = dayB n_1) fun n_2 => .ex (fun (x : List UInt8) => (bif !n then true else !n_2) = false → eqL [AV.str v] [AV.str x] ∧ x.length < 4611686018427387904) fun n_3 => .all (fun (x : Int) => (bif !n then true else !n_2) = false → x = errR n_3) fun n_4 => .leaf (.ret [.bool (bif bif !n then true else !n_2 then true else !decide (n_4 = 0))] [.box [.str a, .int .i64 d, .str v]])) (by kernel_rfl) ?_
 simp only [Tree.holds, zd]
 refine ⟨a, ⟨by simp, by omega⟩, ⟨_, rfl⟩, ?_⟩
 rintro _ rfl
 refine ⟨d, fun _ => ⟨by simp, trivial⟩, ⟨_, fun _ => rfl⟩, ?_⟩
 intro x hx
 refine ⟨v, fun _ => ⟨by simp, by omega⟩, ⟨_, fun _ => rfl⟩, ?_⟩
 intro y hy
 refine RetR.scal hq rfl ?_
 simp only [resV]
 cases hn : qe a with
 | false => rfl
 | true =>
  rw [hx (by rw [hn]; rfl)] at hy ⊢
  cases hd : dayB d with
  | false => rfl
  | true => rw [hy (by rw [hn, hd]; rfl)]; rfl
theorem zd6 : zc Tryz.prog 71 zds := by
 refine ze (fn := Tryz.f71) (c := Tryz.f71.body.getD .skip) rfl rfl rfl fun f hs O w0 Q hq => ?_
 obtain ⟨a, v, d, f⟩ := f
 obtain ⟨h1, h2⟩ := hs
 replace hq := hq _ rfl
 simp only [okC] at hq h1 h2
 refine zb.run hmix zbj [] 400 (T := .ex (fun (x : List UInt8) => eqL [AV.str a] [AV.str x] ∧ x.length < 4611686018427387904) fun n => .all (fun (r : Bool) => r = qe n) fun n => .ex (fun (x : List UInt8) => (!n) = false → eqL [AV.str v] [AV.str x] ∧ x.length < 4611686018427387904) fun n_1 => .all (fun (x : Bool) => (!n) = false → x = qe n_1) fun n_2 => .ex (fun (x : Int) => (bif !n then true else !n_2) = false → eqL [AV.int .i64 d] [AV.int .i64 x] ∧ True) fun n_3 => .all (fun (x : Bool) => (bif !n then true else !n_2) = false → x = dayB n_3) fun n_4 => .leaf (.ret [.bool (bif bif !n then true else !n_2 then true else !n_4)] [.box [.str a, .str v, .int .i64 d, .bool f]])) (by kernel_rfl) ?_
 simp only [Tree.holds, zd]
 refine ⟨a, ⟨by simp, by omega⟩, ⟨_, rfl⟩, ?_⟩
 rintro _ rfl
 refine ⟨v, fun _ => ⟨by simp, by omega⟩, ⟨_, fun _ => rfl⟩, ?_⟩
 intro x hx
 refine ⟨d, fun _ => ⟨by simp, trivial⟩, ⟨_, fun _ => rfl⟩, ?_⟩
 intro y hy
 refine RetR.scal hq rfl ?_
 simp only [resV]
 cases hn : qe a with
 | false => rfl
 | true =>
  rw [hx (by rw [hn]; rfl)] at hy ⊢
  cases hd : qe v with
  | false => rfl
  | true => rw [hy (by rw [hn, hd]; rfl)]; rfl
def ze0 : Ctr := ctrP true (fun l : List Fx => [fxS l, .fn 70 [] []]) (fun l => l.length < 2 ^ 40 ∧ ∀ j, j < l.length → xk (l.getD j Fx.nil)) (fun l r => r = idxB (fun x => !okF x) l) (fun _ (r : Int) => (.int .i64 r, []))
def SIxF (l : List Fx) (i : Nat) : KV := [(0, fxS l), (1, .fn 70 [] []), (7, .int .i64 (l.length : Int)), (8, .int .i64 (i : Int))]
def GE2F : Nat → Option Ctr := fun f => if f = 70 then some (zdy) else none
theorem KL : ∀ g c, GE2F g = some c → zc Tryz.prog g c := okIf zcj (okNone)
theorem zd2 : zc Tryz.prog 109 ze0 := by
 refine ze (fn := Tryz.f109) (c := Tryz.f109.body.getD .skip) rfl rfl rfl fun l hl O w0 Q hq => ?_
 obtain ⟨hl, hsm⟩ := hl
 replace hq := hq _ rfl
 refine zb.run hmix KL [0, 1, 7, 8] 400 (T := .leaf (.loop (Prod.fst (lps K109 0)) (Prod.snd (lps K109 0)) [(0, .sl l.length 3 (fxG l)), (1, .fn 70 [] []), (7, .int .i64 l.length), (8, .int .i64 0)] [])) (by kernel_rfl) ?_
 simp only [Tree.holds, zd]
 refine zb.loop (ι := {i : Nat // i ≤ l.length ∧ ∀ j, j < i → (!okF (l.getD j Fx.nil)) = false}) (fun i => SIxF l i.1) (fun _ => []) (fun i => l.length - i.1) ⟨0, Nat.zero_le _, fun j hj => by omega⟩ 0 ?_ ?_ (by kernel_rfl)
 ·exact ⟨by simp [SIxF, fxS, za], by simp, by kernel_rfl, Nat.zero_le _⟩
 ·rintro ⟨i, hil, hib⟩
  refine zb.run hmix KL [0, 1, 7, 8] 400 (T := .ite (decide ((↑i : Int) < l.length)) (.side ((0 : Int) ≤ i ∧ (↑i : Int) < l.length) (.ex (fun (x : Fx) => eqL [AV.agg [AV.str (Fx.name (List.getD l (Int.toNat (↑i : Int)) Fx.nil)), AV.int .i64 (Fx.date (List.getD l (Int.toNat (↑i : Int)) Fx.nil)), AV.str (Fx.value (List.getD l (Int.toNat (↑i : Int)) Fx.nil))]] [AV.agg [AV.str x.name, AV.int .i64 x.date, AV.str x.value]] ∧ xk x) fun n => .all (fun (r : Bool) => r = !okF n) fun n => .ite n (.leaf (.ret [.int .i64 i] [])) (.side (inR .i64 ((↑i : Int) + (1 : Int))) (.leaf (.back 0 [(0, .sl l.length 3 (fxG l)), (1, .fn 70 [] []), (7, .int .i64 l.length), (8, .int .i64 ((↑i : Int) + (1 : Int)))] []))))) (.leaf (.ret [.int .i64 (-1 : Int)] []))) (by kernel_rfl) ?_
  simp only [Tree.holds, zd, inR, lo, hi, Int.toNat_natCast]
  refine ⟨fun hlt => ?_, fun hge => ?_⟩
  ·have hlt : i < l.length := by have := of_decide_eq_true hlt; omega
   refine ⟨by omega, fun _ => ⟨l.getD i Fx.nil, ⟨by simp, hsm i hlt⟩, ⟨_, rfl⟩, ?_⟩⟩
   rintro _ rfl
   refine ⟨fun h => ?_, fun h => ⟨by omega, fun _ => ?_⟩⟩
   ·rw [Jy hlt h hib] at hq
    exact RetR.scal hq rfl (by simp [resV])
   ·rw [if_pos trivial]
    refine ⟨⟨i + 1, hlt, fun j hj => ?_⟩, by show l.length - (i + 1) < l.length - i; omega, by simp [SIxF, fxS, za], by simp, by kernel_rfl, Nat.zero_le _⟩
    rcases Nat.lt_or_ge j i with h1 | h1
    ·exact hib j h1
    ·have : j = i := by omega
     rw [this]; exact h
  ·have hge : i = l.length := by have := of_decide_eq_false hge; omega
   subst hge
   rw [yA hib] at hq
   exact RetR.scal hq rfl (by simp [resV])
def ze8 : Ctr := ctrP true (fun l : List Fx => [fxS l, .fn 70 [] []]) (fun l => l.length < 2 ^ 40 ∧ ∀ j, j < l.length → xk (l.getD j Fx.nil)) (fun l r => r = l.any fun x => !okF x) (fun _ (r : Bool) => (.bool r, []))
def GE3F : Nat → Option Ctr := fun f => if f = 109 then some (ze0) else none
theorem zcr : ∀ g c, GE3F g = some c → zc Tryz.prog g c := okIf zd2 (okNone)
theorem zdi : zc Tryz.prog 72 ze8 := by
 refine ze (fn := Tryz.f72) (c := Tryz.f72.body.getD .skip) rfl rfl rfl fun l hl O w0 Q hq => ?_
 replace hq := hq _ rfl
 refine zb.run hmix zcr [] 400 (T := .ex (fun (x : List Fx) => eqL [AV.sl l.length 3 (fxG l), AV.fn 70 [] []] [AV.sl x.length 3 (fxG x), AV.fn 70 [] []] ∧ x.length < 1099511627776 ∧ ∀ (j : Nat), j < x.length → xk (x.getD j Fx.nil)) fun n => .all (fun (r : Int) => r = idxB (fun (x : Fx) => !okF x) n) fun n => .leaf (.ret [.bool (decide ((0 : Int) ≤ n))] [])) (by kernel_rfl) ?_
 simp only [Tree.holds, zd]
 refine ⟨l, ⟨by simp [za], hl⟩, ⟨_, rfl⟩, ?_⟩
 rintro _ rfl
 rw [← JP] at hq
 exact RetR.scal hq rfl (by simp [resV])
def zdm : Ctr := ctrP true (fun l : List Ch => [chS l, .fn 71 [] []]) (fun l => l.length < 2 ^ 40 ∧ ∀ j, j < l.length → kF (l.getD j Ch.nil)) (fun l r => r = idxB (fun x => !okC x) l) (fun _ (r : Int) => (.int .i64 r, []))
def SIxC (l : List Ch) (i : Nat) : KV := [(0, chS l), (1, .fn 71 [] []), (7, .int .i64 (l.length : Int)), (8, .int .i64 (i : Int))]
def GE2C : Nat → Option Ctr := fun f => if f = 71 then some (zds) else none
theorem Xb : ∀ g c, GE2C g = some c → zc Tryz.prog g c := okIf zd6 (okNone)
theorem zcu : zc Tryz.prog 110 zdm := by
 refine ze (fn := Tryz.f110) (c := Tryz.f110.body.getD .skip) rfl rfl rfl fun l hl O w0 Q hq => ?_
 obtain ⟨hl, hsm⟩ := hl
 replace hq := hq _ rfl
 refine zb.run hmix Xb [0, 1, 7, 8] 400 (T := .leaf (.loop (Prod.fst (lps K110 0)) (Prod.snd (lps K110 0)) [(0, .sl l.length 4 (chG l)), (1, .fn 71 [] []), (7, .int .i64 l.length), (8, .int .i64 0)] [])) (by kernel_rfl) ?_
 simp only [Tree.holds, zd]
 refine zb.loop (ι := {i : Nat // i ≤ l.length ∧ ∀ j, j < i → (!okC (l.getD j Ch.nil)) = false}) (fun i => SIxC l i.1) (fun _ => []) (fun i => l.length - i.1) ⟨0, Nat.zero_le _, fun j hj => by omega⟩ 0 ?_ ?_ (by kernel_rfl)
 ·exact ⟨by simp [SIxC, chS, za], by simp, by kernel_rfl, Nat.zero_le _⟩
 ·rintro ⟨i, hil, hib⟩
  refine zb.run hmix Xb [0, 1, 7, 8] 400 (T := .ite (decide ((↑i : Int) < l.length)) (.side ((0 : Int) ≤ i ∧ (↑i : Int) < l.length) (.ex (fun (x : Ch) => eqL [AV.agg [AV.str (Ch.zM (List.getD l (Int.toNat (↑i : Int)) Ch.nil)), AV.str (Ch.name (List.getD l (Int.toNat (↑i : Int)) Ch.nil)), AV.int .i64 (Ch.date (List.getD l (Int.toNat (↑i : Int)) Ch.nil)), AV.bool (Ch.first (List.getD l (Int.toNat (↑i : Int)) Ch.nil))]] [AV.agg [AV.str x.zM, AV.str x.name, AV.int .i64 x.date, AV.bool x.first]] ∧ kF x) fun n => .all (fun (r : Bool) => r = !okC n) fun n => .ite n (.leaf (.ret [.int .i64 i] [])) (.side (inR .i64 ((↑i : Int) + (1 : Int))) (.leaf (.back 0 [(0, .sl l.length 4 (chG l)), (1, .fn 71 [] []), (7, .int .i64 l.length), (8, .int .i64 ((↑i : Int) + (1 : Int)))] []))))) (.leaf (.ret [.int .i64 (-1 : Int)] []))) (by kernel_rfl) ?_
  simp only [Tree.holds, zd, inR, lo, hi, Int.toNat_natCast]
  refine ⟨fun hlt => ?_, fun hge => ?_⟩
  ·have hlt : i < l.length := by have := of_decide_eq_true hlt; omega
   refine ⟨by omega, fun _ => ⟨l.getD i Ch.nil, ⟨by simp, hsm i hlt⟩, ⟨_, rfl⟩, ?_⟩⟩
   rintro _ rfl
   refine ⟨fun h => ?_, fun h => ⟨by omega, fun _ => ?_⟩⟩
   ·rw [Jy hlt h hib] at hq
    exact RetR.scal hq rfl (by simp [resV])
   ·rw [if_pos trivial]
    refine ⟨⟨i + 1, hlt, fun j hj => ?_⟩, by show l.length - (i + 1) < l.length - i; omega, by simp [SIxC, chS, za], by simp, by kernel_rfl, Nat.zero_le _⟩
    rcases Nat.lt_or_ge j i with h1 | h1
    ·exact hib j h1
    ·have : j = i := by omega
     rw [this]; exact h
  ·have hge : i = l.length := by have := of_decide_eq_false hge; omega
   subst hge
   rw [yA hib] at hq
   exact RetR.scal hq rfl (by simp [resV])
def zdz : Ctr := ctrP true (fun l : List Ch => [chS l, .fn 71 [] []]) (fun l => l.length < 2 ^ 40 ∧ ∀ j, j < l.length → kF (l.getD j Ch.nil)) (fun l r => r = l.any fun x => !okC x) (fun _ (r : Bool) => (.bool r, []))
def GE3C : Nat → Option Ctr := fun f => if f = 110 then some (zdm) else none
theorem zcq : ∀ g c, GE3C g = some c → zc Tryz.prog g c := okIf zcu (okNone)
theorem zd8 : zc Tryz.prog 73 zdz := by
 refine ze (fn := Tryz.f73) (c := Tryz.f73.body.getD .skip) rfl rfl rfl fun l hl O w0 Q hq => ?_
 replace hq := hq _ rfl
 refine zb.run hmix zcq [] 400 (T := .ex (fun (x : List Ch) => eqL [AV.sl l.length 4 (chG l), AV.fn 71 [] []] [AV.sl x.length 4 (chG x), AV.fn 71 [] []] ∧ x.length < 1099511627776 ∧ ∀ (j : Nat), j < x.length → kF (x.getD j Ch.nil)) fun n => .all (fun (r : Int) => r = idxB (fun (x : Ch) => !okC x) n) fun n => .leaf (.ret [.bool (decide ((0 : Int) ≤ n))] [])) (by kernel_rfl) ?_
 simp only [Tree.holds, zd]
 refine ⟨l, ⟨by simp [za], hl⟩, ⟨_, rfl⟩, ?_⟩
 rintro _ rfl
 rw [← JP] at hq
 exact RetR.scal hq rfl (by simp [resV])
def zdp : Ctr := ctrP true (fun l : List Fx => [fxS l, .fn 57 [] []]) (fun l => l.length < 2 ^ 40) (fun l r => r = ordB cmpF Fx.nil l) (fun _ (r : Bool) => (.bool r, []))
def SOdF (l : List Fx) (i : Nat) : KV := [(0, fxS l), (1, .fn 57 [] []), (5, .int .i64 (i : Int))]
def GE4F : Nat → Option Ctr := fun f => if f = 57 then some (Z5) else none
theorem Xj : ∀ g c, GE4F g = some c → zc Tryz.prog g c := okIf Z9 (okNone)
theorem zdb : zc Tryz.prog 74 zdp := by
 refine ze (fn := Tryz.f74) (c := Tryz.f74.body.getD .skip) rfl rfl rfl fun l hl O w0 Q hq => ?_
 replace hq := hq _ rfl
 refine zb.run hmix Xj [0, 1, 5] 400 (T := .leaf (.loop (Prod.fst (lps K74 0)) (Prod.snd (lps K74 0)) [(0, .sl l.length 3 (fxG l)), (1, .fn 57 [] []), (5, .int .i64 1)] [])) (by kernel_rfl) ?_
 simp only [Tree.holds, zd]
 refine zb.loop (ι := {i : Nat // 0 < i ∧ (i ≤ l.length ∨ i = 1) ∧ ∀ j, j + 1 < i → cmpF (l.getD j Fx.nil) (l.getD (j + 1) Fx.nil) < 0}) (fun i => SOdF l i.1) (fun _ => []) (fun i => l.length - i.1) ⟨1, Nat.one_pos, .inr rfl, fun j hj => by omega⟩ 0 ?_ ?_ (by kernel_rfl)
 ·exact ⟨by simp [SOdF, fxS, za], by simp, by kernel_rfl, Nat.zero_le _⟩
 ·rintro ⟨i, hi0, hil, hib⟩
  refine zb.run hmix Xj [0, 1, 5] 400 (T := .ite (decide ((↑i : Int) < l.length)) (.side (inR .i64 ((↑i : Int) - (1 : Int))) (.side ((0 : Int) ≤ i - (1 : Int) ∧ (↑i : Int) - (1 : Int) < l.length) (.side ((0 : Int) ≤ i ∧ (↑i : Int) < l.length) (.ex (fun (x : Fx × Fx) => eqL [AV.agg [AV.str (Fx.name (List.getD l (Int.toNat ((↑i : Int) - (1 : Int))) Fx.nil)), AV.int .i64 (Fx.date (List.getD l (Int.toNat ((↑i : Int) - (1 : Int))) Fx.nil)), AV.str (Fx.value (List.getD l (Int.toNat ((↑i : Int) - (1 : Int))) Fx.nil))], AV.agg [AV.str (Fx.name (List.getD l (Int.toNat (↑i : Int)) Fx.nil)), AV.int .i64 (Fx.date (List.getD l (Int.toNat (↑i : Int)) Fx.nil)), AV.str (Fx.value (List.getD l (Int.toNat (↑i : Int)) Fx.nil))]] [AV.agg [AV.str x.1.name, AV.int .i64 x.1.date, AV.str x.1.value], AV.agg [AV.str x.2.name, AV.int .i64 x.2.date, AV.str x.2.value]] ∧ True) fun n => .all (fun (r : Int) => r = cmpF n.1 n.2) fun n => .ite (decide ((0 : Int) ≤ n)) (.leaf (.ret [.bool false] [])) (.side (inR .i64 ((↑i : Int) + (1 : Int))) (.leaf (.back 0 [(0, .sl l.length 3 (fxG l)), (1, .fn 57 [] []), (5, .int .i64 ((↑i : Int) + (1 : Int)))] []))))))) (.leaf (.ret [.bool true] []))) (by kernel_rfl) ?_
  simp only [Tree.holds, zd, inR, lo, hi, Int.toNat_natCast]
  have e : ((i : Int) - 1).toNat = i - 1 := by omega
  have e2 : i - 1 + 1 = i := by omega
  refine ⟨fun hlt => ?_, fun hge => ?_⟩
  ·have hlt : i < l.length := by have := of_decide_eq_true hlt; omega
   simp only [e]
   refine ⟨by omega, fun _ => ⟨by omega, fun _ => ⟨by omega, fun _ => ⟨(l.getD (i - 1) Fx.nil, l.getD i Fx.nil), ⟨by simp, trivial⟩, ⟨_, rfl⟩, ?_⟩⟩⟩⟩
   rintro _ rfl
   refine ⟨fun h => ?_, fun h => ⟨by omega, fun _ => ?_⟩⟩
   ·have h := of_decide_eq_true h
    rw [xO (z := Fx.nil) (j := i - 1) (by omega) (by rw [e2]; simp only at h; omega)] at hq
    exact RetR.scal hq rfl (by simp [resV])
   ·have h := of_decide_eq_false h
    rw [if_pos trivial]
    refine ⟨⟨i + 1, by omega, .inl hlt, fun j hj => ?_⟩, by show l.length - (i + 1) < l.length - i; omega, by simp [SOdF, fxS, za], by simp, by kernel_rfl, Nat.zero_le _⟩
    rcases Nat.lt_or_ge (j + 1) i with h1 | h1
    ·exact hib j h1
    ·have : j = i - 1 := by omega
     rw [this, e2]; simp only at h; omega
  ·have hge : l.length ≤ i := by have := of_decide_eq_false hge; omega
   rw [x6 (z := Fx.nil) fun j hj => hib j (by omega)] at hq
   exact RetR.scal hq rfl (by simp [resV])
def zdv : Ctr := ctrP true (fun l : List Ch => [chS l, .fn 76 [] []]) (fun l => l.length < 2 ^ 40) (fun l r => r = ordB cmpC Ch.nil l) (fun _ (r : Bool) => (.bool r, []))
def SOdC (l : List Ch) (i : Nat) : KV := [(0, chS l), (1, .fn 76 [] []), (5, .int .i64 (i : Int))]
def GE4C : Nat → Option Ctr := fun f => if f = 76 then some (Zs) else none
theorem KJ : ∀ g c, GE4C g = some c → zc Tryz.prog g c := okIf uP (okNone)
theorem zbz : zc Tryz.prog 75 zdv := by
 refine ze (fn := Tryz.f75) (c := Tryz.f75.body.getD .skip) rfl rfl rfl fun l hl O w0 Q hq => ?_
 replace hq := hq _ rfl
 refine zb.run hmix KJ [0, 1, 5] 400 (T := .leaf (.loop (Prod.fst (lps K75 0)) (Prod.snd (lps K75 0)) [(0, .sl l.length 4 (chG l)), (1, .fn 76 [] []), (5, .int .i64 1)] [])) (by kernel_rfl) ?_
 simp only [Tree.holds, zd]
 refine zb.loop (ι := {i : Nat // 0 < i ∧ (i ≤ l.length ∨ i = 1) ∧ ∀ j, j + 1 < i → cmpC (l.getD j Ch.nil) (l.getD (j + 1) Ch.nil) < 0}) (fun i => SOdC l i.1) (fun _ => []) (fun i => l.length - i.1) ⟨1, Nat.one_pos, .inr rfl, fun j hj => by omega⟩ 0 ?_ ?_ (by kernel_rfl)
 ·exact ⟨by simp [SOdC, chS, za], by simp, by kernel_rfl, Nat.zero_le _⟩
 ·rintro ⟨i, hi0, hil, hib⟩
  refine zb.run hmix KJ [0, 1, 5] 400 (T := .ite (decide ((↑i : Int) < l.length)) (.side (inR .i64 ((↑i : Int) - (1 : Int))) (.side ((0 : Int) ≤ i - (1 : Int) ∧ (↑i : Int) - (1 : Int) < l.length) (.side ((0 : Int) ≤ i ∧ (↑i : Int) < l.length) (.ex (fun (x : Ch × Ch) => eqL [AV.agg [AV.str (Ch.zM (List.getD l (Int.toNat ((↑i : Int) - (1 : Int))) Ch.nil)), AV.str (Ch.name (List.getD l (Int.toNat ((↑i : Int) - (1 : Int))) Ch.nil)), AV.int .i64 (Ch.date (List.getD l (Int.toNat ((↑i : Int) - (1 : Int))) Ch.nil)), AV.bool (Ch.first (List.getD l (Int.toNat ((↑i : Int) - (1 : Int))) Ch.nil))], AV.agg [AV.str (Ch.zM (List.getD l (Int.toNat (↑i : Int)) Ch.nil)), AV.str (Ch.name (List.getD l (Int.toNat (↑i : Int)) Ch.nil)), AV.int .i64 (Ch.date (List.getD l (Int.toNat (↑i : Int)) Ch.nil)), AV.bool (Ch.first (List.getD l (Int.toNat (↑i : Int)) Ch.nil))]] [AV.agg [AV.str x.1.zM, AV.str x.1.name, AV.int .i64 x.1.date, AV.bool x.1.first], AV.agg [AV.str x.2.zM, AV.str x.2.name, AV.int .i64 x.2.date, AV.bool x.2.first]] ∧ True) fun n => .all (fun (r : Int) => r = cmpC n.1 n.2) fun n => .ite (decide ((0 : Int) ≤ n)) (.leaf (.ret [.bool false] [])) (.side (inR .i64 ((↑i : Int) + (1 : Int))) (.leaf (.back 0 [(0, .sl l.length 4 (chG l)), (1, .fn 76 [] []), (5, .int .i64 ((↑i : Int) + (1 : Int)))] []))))))) (.leaf (.ret [.bool true] []))) (by kernel_rfl) ?_
  simp only [Tree.holds, zd, inR, lo, hi, Int.toNat_natCast]
  have e : ((i : Int) - 1).toNat = i - 1 := by omega
  have e2 : i - 1 + 1 = i := by omega
  refine ⟨fun hlt => ?_, fun hge => ?_⟩
  ·have hlt : i < l.length := by have := of_decide_eq_true hlt; omega
   simp only [e]
   refine ⟨by omega, fun _ => ⟨by omega, fun _ => ⟨by omega, fun _ => ⟨(l.getD (i - 1) Ch.nil, l.getD i Ch.nil), ⟨by simp, trivial⟩, ⟨_, rfl⟩, ?_⟩⟩⟩⟩
   rintro _ rfl
   refine ⟨fun h => ?_, fun h => ⟨by omega, fun _ => ?_⟩⟩
   ·have h := of_decide_eq_true h
    rw [xO (z := Ch.nil) (j := i - 1) (by omega) (by rw [e2]; simp only at h; omega)] at hq
    exact RetR.scal hq rfl (by simp [resV])
   ·have h := of_decide_eq_false h
    rw [if_pos trivial]
    refine ⟨⟨i + 1, by omega, .inl hlt, fun j hj => ?_⟩, by show l.length - (i + 1) < l.length - i; omega, by simp [SOdC, chS, za], by simp, by kernel_rfl, Nat.zero_le _⟩
    rcases Nat.lt_or_ge (j + 1) i with h1 | h1
    ·exact hib j h1
    ·have : j = i - 1 := by omega
     rw [this, e2]; simp only at h; omega
  ·have hge : l.length ≤ i := by have := of_decide_eq_false hge; omega
   rw [x6 (z := Ch.nil) fun j hj => hib j (by omega)] at hq
   exact RetR.scal hq rfl (by simp [resV])
def envP (p : List Fx × List Ch) : Prop := p.1.length < 2 ^ 40 ∧ p.2.length < 2 ^ 40 ∧ (∀ j, j < p.1.length → xk (p.1.getD j Fx.nil)) ∧ ∀ j, j < p.2.length → kF (p.2.getD j Ch.nil)
def xM : Ctr := ctrP true (fun p : List Fx × List Ch => [envA p.1 p.2]) envP (fun p r => r = errE p.1 p.2) (fun _ (r : Int) => (.int .i64 r, []))
def GE5 : Nat → Option Ctr := fun f => if f = 72 then some (ze8) else if f = 73 then some (zdz) else if f = 74 then some (zdp) else if f = 75 then some (zdv) else none
theorem zfq : ∀ g c, GE5 g = some c → zc Tryz.prog g c := okIf zdi (okIf zd8 (okIf zdb (okIf zbz (okNone))))
theorem X7 : zc Tryz.prog 40 xM := by
 refine ze (fn := Tryz.f40) (c := Tryz.f40.body.getD .skip) rfl rfl rfl fun p hp O w0 Q hq => ?_
 obtain ⟨f, c⟩ := p
 obtain ⟨h1, h2, h3, h4⟩ := hp
 replace hq := hq _ rfl
 simp only at hq h1 h2 h3 h4
 refine zb.run hmix zfq [] 400 (T := .ite (bif decide ((1000 : Int) < f.length) then true else decide ((1000 : Int) < c.length)) (.leaf (.ret [.int .i64 4] [.box [.sl f.length 3 (fxG f), .sl c.length 4 (chG c)]])) (.ex (fun (x : List Fx) => eqL [AV.sl f.length 3 (fxG f), AV.fn 70 [] []] [AV.sl x.length 3 (fxG x), AV.fn 70 [] []] ∧ x.length < 1099511627776 ∧ ∀ (j : Nat), j < x.length → xk (x.getD j Fx.nil)) fun n => .all (fun (r : Bool) => r = List.any n fun (x : Fx) => !okF x) fun n => .ex (fun (x : List Ch) => n = false → eqL [AV.sl c.length 4 (chG c), AV.fn 71 [] []] [AV.sl x.length 4 (chG x), AV.fn 71 [] []] ∧ x.length < 1099511627776 ∧ ∀ (j : Nat), j < x.length → kF (x.getD j Ch.nil)) fun n_1 => .all (fun (x : Bool) => n = false → x = List.any n_1 fun (x : Ch) => !okC x) fun n_2 => .ex (fun (x : List Fx) => (bif n then true else n_2) = false → eqL [AV.sl f.length 3 (fxG f), AV.fn 57 [] []] [AV.sl x.length 3 (fxG x), AV.fn 57 [] []] ∧ x.length < 1099511627776) fun n_3 => .all (fun (x : Bool) => (bif n then true else n_2) = false → x = ordB cmpF Fx.nil n_3) fun n_4 => .ex (fun (x : List Ch) => (bif bif n then true else n_2 then true else !n_4) = false → eqL [AV.sl c.length 4 (chG c), AV.fn 76 [] []] [AV.sl x.length 4 (chG x), AV.fn 76 [] []] ∧ x.length < 1099511627776) fun n_5 => .all (fun (x : Bool) => (bif bif n then true else n_2 then true else !n_4) = false → x = ordB cmpC Ch.nil n_5) fun n_6 => .ite (bif bif bif n then true else n_2 then true else !n_4 then true else !n_6) (.leaf (.ret [.int .i64 8] [.box [.sl f.length 3 (fxG f), .sl c.length 4 (chG c)]])) (.leaf (.ret [.int .i64 0] [.box [.sl f.length 3 (fxG f), .sl c.length 4 (chG c)]])))) (by kernel_rfl) ?_
 simp only [Tree.holds, zd]
 refine ⟨fun h => ?_, fun h => ?_⟩
 ·have h : 1000 < f.length ∨ 1000 < c.length := by
   rw [Bool.cond_eq_ite] at h
   split at h
   ·rename_i h1; left; have := of_decide_eq_true h1; omega
   ·right; have := of_decide_eq_true h; omega
  have : errE f c = 4 := if_pos h
  rw [this] at hq; exact RetR.scal hq rfl (by simp [resV])
 ·have h : ¬ (1000 < f.length ∨ 1000 < c.length) := by
   rw [Bool.cond_eq_ite] at h
   split at h
   ·cases h
   ·rename_i h1
    have h2 := of_decide_eq_false h
    rintro (h3 | h3)
    ·exact h1 (decide_eq_true (by omega))
    ·omega
  have he : errE f c = if (f.all okF && c.all okC && ordB cmpF Fx.nil f && ordB cmpC Ch.nil c) = true then 0 else 8 := if_neg h
  have a1 : (f.any fun x => !okF x) = !f.all okF := by rw [List.not_all_eq_any_not]
  have a2 : (c.any fun x => !okC x) = !c.all okC := by rw [List.not_all_eq_any_not]
  refine ⟨f, ⟨by simp [za], h1, h3⟩, ⟨_, rfl⟩, ?_⟩
  rintro _ rfl
  refine ⟨c, fun _ => ⟨by simp [za], h2, h4⟩, ⟨_, fun _ => rfl⟩, ?_⟩
  intro b1 g1
  refine ⟨f, fun _ => ⟨by simp [za], h1⟩, ⟨_, fun _ => rfl⟩, ?_⟩
  intro b2 g2
  refine ⟨c, fun _ => ⟨by simp [za], h2⟩, ⟨_, fun _ => rfl⟩, ?_⟩
  intro b3 g3
  rw [a1] at g1 g2 g3 ⊢
  rw [a2] at g1
  clear a1 a2
  generalize f.all okF = p1 at *
  generalize c.all okC = p2 at *
  generalize ordB cmpF Fx.nil f = p3 at *
  generalize ordB cmpC Ch.nil c = p4 at *
  have key : (bif bif bif !p1 then true else b1 then true else !b2 then true else !b3) = !(p1 && p2 && p3 && p4) := by
   cases p1 with
   | false => rfl
   | true =>
    have g1 := g1 rfl
    subst g1
    cases p2 with
    | false => rfl
    | true =>
     have g2 := g2 rfl
     subst g2
     cases b2 with
     | false => rfl
     | true => have g3 := g3 rfl; subst g3; rfl
  rw [key]
  clear key g1 g2 g3
  generalize (p1 && p2 && p3 && p4) = q at *
  refine ⟨fun h => ?_, fun h => ?_⟩
  ·cases q with
   | true => cases h
   | false => rw [he, if_neg (by decide)] at hq; exact RetR.scal hq rfl (by simp [resV])
  ·cases q with
   | false => cases h
   | true => rw [he, if_pos rfl] at hq; exact RetR.scal hq rfl (by simp [resV])
end Go.Proofs.Tryz
end

/- What is known: the reference's checks. -/
section
set_option maxRecDepth 100000
open Go Go.Sx Go.Proofs Go.Nov
namespace Go.Proofs.Tryz
attribute [local simp] eqKV eqA eqA0 eqH eqB eqL eqL0
end Go.Proofs.Tryz
end

/- A place in an ordered list. -/
section
namespace Go.Nov
open Go.Sx
theorem UL : ∀ s : List UInt8, Op.bytesLess s s = false
 | [] => rfl
 | a :: s => by simp [Op.bytesLess, UL s]
theorem zc0 {s t : List UInt8} : cmpS s t < 0 ↔ Op.bytesLess s t = true := by
 unfold cmpS
 cases Op.bytesLess s t with
 | true => simp
 | false => by_cases h : s = t <;> simp [h]
theorem u6 {s t : List UInt8} : cmpS s t = 0 ↔ s = t := by
 unfold cmpS
 cases hb : Op.bytesLess s t with
 | true =>
  simp only [if_true]
  refine ⟨fun h => by omega, fun h => ?_⟩
  subst h; rw [UL] at hb; cases hb
 | false => by_cases h : s = t <;> simp [h]
theorem zci {x y : Int} : cmpI x y = 0 ↔ x = y := by
 unfold cmpI
 split
 ·exact ⟨fun h => by omega, fun h => by omega⟩
 ·split
  ·exact ⟨fun h => by omega, fun h => by omega⟩
  ·exact ⟨fun _ => by omega, fun _ => rfl⟩
theorem zcp {a b : Fx} : cmpF a b = 0 ↔ a.name = b.name ∧ a.date = b.date := by
 unfold cmpF
 by_cases h : cmpS a.name b.name = 0
 ·rw [if_pos h, zci]; exact ⟨fun h2 => ⟨u6.1 h, h2⟩, fun h2 => h2.2⟩
 ·rw [if_neg h]; exact ⟨fun h2 => absurd h2 h, fun h2 => absurd (u6.2 h2.1) h⟩
structure OrdK {α : Type} (c : α → α → Int) : Prop where
 lt : ∀ a b d, c a b < 0 → c b d < 0 → c a d < 0
 eq : ∀ a b d, c a b < 0 → c b d = 0 → c a d < 0
section
variable {α : Type} {c : α → α → Int} {z x : α}
end
theorem UD {α : Type} {p : α → Bool} {z : α} {l : List α} (h : ∀ j, j < l.length → p (l.getD j z) = true) : l.all p = true := by
 rw [List.all_eq_true]
 intro x hx
 obtain ⟨j, hj, rfl⟩ := List.getElem_of_mem hx
 have := h j hj
 simpa [List.getD, hj] using this
theorem KQ {α : Type} {p : α → Bool} {z : α} {l : List α} {j : Nat} (hj : j < l.length) (h : p (l.getD j z) = false) : l.all p = false := by
 rw [List.all_eq_false]
 exact ⟨l[j], List.getElem_mem hj, by simpa [List.getD, hj] using h⟩
theorem Y2 {f : List Fx} {c : List Ch} (hb : ¬ (1000 < f.length ∨ 1000 < c.length)) (h : (f.all okF && c.all okC && ordB cmpF Fx.nil f && ordB cmpC Ch.nil c) = false) : errE f c = 8 := by
 unfold errE
 rw [if_neg hb, if_neg (by rw [h]; simp)]
theorem uR {f : List Fx} {c : List Ch} : errE f c = 0 ↔ ¬ (1000 < f.length ∨ 1000 < c.length) ∧ f.all okF = true ∧ c.all okC = true ∧ ordB cmpF Fx.nil f = true ∧ ordB cmpC Ch.nil c = true := by
 unfold errE
 by_cases hb : 1000 < f.length ∨ 1000 < c.length
 ·rw [if_pos hb]; simp [hb]
 ·rw [if_neg hb]
  by_cases h : (f.all okF && c.all okC && ordB cmpF Fx.nil f && ordB cmpC Ch.nil c) = true
  ·rw [if_pos h]
   simp only [Bool.and_eq_true] at h
   exact ⟨fun _ => ⟨hb, h.1.1.1, h.1.1.2, h.1.2, h.2⟩, fun _ => rfl⟩
  ·rw [if_neg h]
   refine ⟨fun h2 => by omega, fun h2 => absurd ?_ h⟩
   simp [h2.2.1, h2.2.2.1, h2.2.2.2.1, h2.2.2.2.2]
def jp (l : List Fx) (a : List UInt8) (d : Int) : List UInt8 × Bool := match l.find? fun x => decide (x.name = a) && decide (x.date = d) with
 | some x => (x.value, true)
 | none => ([], false)
theorem Kn {α : Type} {p : α → Bool} {l : List α} {z : α} {i : Nat} (hi : i < l.length) (h : p (l.getD i z) = true) (hb : ∀ j, j < i → p (l.getD j z) = false) : l.find? p = some (l.getD i z) := by
 induction l generalizing i with
 | nil => simp at hi
 | cons a l ih =>
  cases i with
  | zero => simp only [List.getD_cons_zero] at h ⊢; simp [h]
  | succ i =>
   have h0 := hb 0 (by omega)
   simp only [List.getD_cons_zero, List.getD_cons_succ] at h h0 ⊢
   rw [List.find?_cons, h0]
   exact ih (by simpa using hi) h fun j hj => by have := hb (j + 1) (by omega); simpa using this
theorem zc4 {α : Type} {p : α → Bool} {l : List α} {z : α} (hb : ∀ j, j < l.length → p (l.getD j z) = false) : l.find? p = none := by
 rw [List.find?_eq_none]
 intro x hx
 obtain ⟨j, hj, rfl⟩ := List.getElem_of_mem hx
 have := hb j hj
 simpa [List.getD, hj] using this
end Go.Nov
end

/- What is known: the reference's checks, finding, copies. -/
section
set_option maxRecDepth 100000
open Go Go.Sx Go.Proofs Go.Nov
namespace Go.Proofs.Tryz
attribute [local simp] eqKV eqA eqA0 eqH eqB eqL eqL0
noncomputable def K80 : List Go.Sx.Item := [.code (Tryz.f80.body.getD .skip)]
noncomputable def K81 : List Go.Sx.Item := [.code (Tryz.f81.body.getD .skip)]
noncomputable def K46 : List Go.Sx.Item := [.code (Tryz.f46.body.getD .skip)]
noncomputable def K82 : List Go.Sx.Item := [.code (Tryz.f82.body.getD .skip)]
def JE : Ctr := ctrP true (fun p : Fx × Fx => [p.1.av, p.2.av]) (fun _ => True) (fun p r => r = decide (cmpF p.1 p.2 < 0)) (fun _ (r : Bool) => (.bool r, []))
def W6 : Ctr := ctrP true (fun p : Ch × Ch => [p.1.av, p.2.av]) (fun _ => True) (fun p r => r = decide (cmpC p.1 p.2 < 0)) (fun _ (r : Bool) => (.bool r, []))
theorem VF : zc Tryz.prog 80 JE := by
 refine ze (fn := Tryz.f80) (c := Tryz.f80.body.getD .skip) rfl rfl rfl fun p hs O w0 Q hq => ?_
 obtain ⟨⟨a, d, v⟩, ⟨b, e, u⟩⟩ := p
 replace hq := hq _ rfl
 simp only at hq
 refine zb.run hmix zo [] 400 (T := .leaf (.ret [.bool (bif Op.bytesLess a b then true else bif decide (a = b) then decide (d < e) else false)] [.box [.str a, .int .i64 d, .str v], .box [.str b, .int .i64 e, .str u]])) (by kernel_rfl) ?_
 simp only [Tree.holds, zd]
 refine RetR.scal hq rfl ?_
 simp only [resV, cmpF]
 rw [yR (n := cmpI d e) (by simp only [KN])]
theorem Vj : zc Tryz.prog 81 W6 := by
 refine ze (fn := Tryz.f81) (c := Tryz.f81.body.getD .skip) rfl rfl rfl fun p hs O w0 Q hq => ?_
 obtain ⟨⟨a, v, d, x⟩, ⟨b, u, e, y⟩⟩ := p
 replace hq := hq _ rfl
 simp only at hq
 refine zb.run hmix zo [] 400 (T := .ite (!decide (a = b)) (.leaf (.ret [.bool (Op.bytesLess a b)] [.box [.str a, .str v, .int .i64 d, .bool x], .box [.str b, .str u, .int .i64 e, .bool y]])) (.leaf (.ret [.bool (bif Op.bytesLess v u then true else bif decide (v = u) then decide (d < e) else false)] [.box [.str a, .str v, .int .i64 d, .bool x], .box [.str b, .str u, .int .i64 e, .bool y]]))) (by kernel_rfl) ?_
 simp only [Tree.holds, zd]
 refine ⟨fun h => ?_, fun h => ?_⟩
 ·refine RetR.scal hq rfl ?_
  have h : a ≠ b := by simpa using h
  simp only [resV, cmpC]
  rw [if_neg (fun h2 => h (u6.1 h2))]
  simp only [zc0]
  cases Op.bytesLess a b <;> rfl
 ·refine RetR.scal hq rfl ?_
  have h : a = b := by simpa using h
  simp only [resV, cmpC]
  rw [if_pos (u6.2 h), yR (n := cmpI d e) (by simp only [KN])]
def GV1 : Nat → Option Ctr := fun f => if f = 79 then some (uh) else if f = 47 then some (wS) else if f = 78 then some (xE) else if f = 80 then some (JE) else if f = 81 then some (W6) else none
theorem Vv : ∀ g c, GV1 g = some c → zc Tryz.prog g c := okIf Wh (okIf Jj (okIf x3 (okIf VF (okIf Vj (okNone)))))
def HE (f : List Fx) (c : List Ch) : Heap := [.box [fxS f, chS c]]
def SCE1 (i : Nat) : KV := [(1, .ptr 0 0), (3, .int .i64 (i : Int)), (5, .undef), (34, .undef), (35, .undef), (36, .undef), (37, .undef), (40, .undef), (41, .undef), (42, .undef), (43, .undef), (46, .undef), (47, .undef), (48, .undef), (49, .undef), (50, .undef), (51, .undef), (52, .undef), (53, .undef), (54, .undef), (55, .undef), (56, .undef), (57, .undef), (58, .undef), (77, .undef), (78, .undef), (79, .undef), (80, .undef), (83, .undef), (84, .undef), (85, .undef), (86, .undef), (89, .undef), (90, .undef), (91, .undef), (92, .undef), (93, .undef), (94, .undef), (95, .undef), (96, .undef), (97, .undef), (98, .undef), (99, .undef), (100, .undef), (101, .undef)]
def SCE2 (i : Nat) : KV := [(1, .ptr 0 0), (3, .undef), (5, .int .i64 (i : Int)), (34, .undef), (35, .undef), (36, .undef), (37, .undef), (40, .undef), (41, .undef), (42, .undef), (43, .undef), (46, .undef), (47, .undef), (48, .undef), (49, .undef), (50, .undef), (51, .undef), (52, .undef), (53, .undef), (54, .undef), (55, .undef), (56, .undef), (57, .undef), (58, .undef), (77, .undef), (78, .undef), (79, .undef), (80, .undef), (83, .undef), (84, .undef), (85, .undef), (86, .undef), (89, .undef), (90, .undef), (91, .undef), (92, .undef), (93, .undef), (94, .undef), (95, .undef), (96, .undef), (97, .undef), (98, .undef), (99, .undef), (100, .undef), (101, .undef)]
def SFi (a : List UInt8) (d : Int) (i : Nat) : KV := [(1, .str a), (2, .int .i64 d), (3, .ptr 0 0), (8, .int .i64 (i : Int)), (25, .undef), (26, .undef), (27, .undef), (28, .undef), (29, .undef), (30, .undef), (31, .undef), (32, .undef)]
theorem ZO {O : Nat → Prop} {w0 : World} {Q : AV × Heap → Prop} {Hs : Nat → KV → Heap → Prop} (f : List Fx) (c : List Ch) (hbig : ¬ (1000 < f.length ∨ 1000 < c.length)) (hs : ∀ j, j < c.length → kF (c.getD j Ch.nil)) (hf1 : f.all okF = true) (hf2 : ordB cmpF Fx.nil f = true)
  (hq : ∀ r, r = errE f c → Q (.int .i64 r, [])) (kv : KV) (h : Heap) (hle : LeK 0 Tryz.f46.ntmps kv h (SCE2 0) (HE f c)) :
  zb Tryz.prog Tryz.f46 O 0 w0 [] Hs (RetR xM 0 Q) (.code (.loop (lps (inside K46 0) 0).1) :: (lps (inside K46 0) 0).2) (mk Tryz.f46.ntmps kv h) := by
 refine zb.loop (ι := {i : Nat // i ≤ c.length ∧ (∀ j, j < i → okC (c.getD j Ch.nil) = true) ∧ ∀ j, j + 1 < i → cmpC (c.getD j Ch.nil) (c.getD (j + 1) Ch.nil) < 0}) (fun i => SCE2 i.1) (fun _ => HE f c) (fun i => c.length - i.1) ⟨0, Nat.zero_le _, fun j hj => by omega, fun j hj => by omega⟩ 0 hle ?_ (by kernel_rfl)
 rintro ⟨i, hil, hib, hio⟩
 refine zb.run hmix Vv [1, 3, 5, 34, 35, 36, 37, 40, 41, 42, 43, 46, 47, 48, 49, 50, 51, 52, 53, 54, 55, 56, 57, 58, 77, 78, 79, 80, 83, 84, 85, 86, 89, 90, 91, 92, 93, 94, 95, 96, 97, 98, 99, 100, 101] 400 (T := .ite (decide ((↑i : Int) < c.length)) (.side ((0 : Int) ≤ i ∧ (↑i : Int) < c.length) (.ex (fun (x : List UInt8) => eqL [AV.str (Ch.zM (List.getD c (Int.toNat (↑i : Int)) Ch.nil))] [AV.str x] ∧ x.length < 4611686018427387904) fun n => .all (fun (r : Bool) => r = qe n) fun n => .ex (fun (x : List UInt8) => (!n) = false → eqL [AV.str (Ch.name (List.getD c (Int.toNat (↑i : Int)) Ch.nil))] [AV.str x] ∧ x.length < 4611686018427387904) fun n_1 => .all (fun (x : Bool) => (!n) = false → x = qe n_1) fun n_2 => .ex (fun (x : Int) => (bif !n then true else !n_2) = false → eqL [AV.int .i64 (Ch.date (List.getD c (Int.toNat (↑i : Int)) Ch.nil))] [AV.int .i64 x] ∧ True) fun n_3 => .all (fun (x : Bool) => (bif !n then true else !n_2) = false → x = dayB n_3) fun n_4 => .side ((bif bif !n then true else !n_2 then true else !n_4) = false ∧ decide ((0 : Int) < i) = true → inR .i64 ((↑i : Int) - (1 : Int))) (.side ((bif bif !n then true else !n_2 then true else !n_4) = false ∧ decide ((0 : Int) < i) = true → (0 : Int) ≤ i - (1 : Int) ∧ (↑i : Int) - (1 : Int) < c.length) (.ex (fun (x : Ch × Ch) => (bif bif !n then true else !n_2 then true else !n_4) = false ∧ decide ((0 : Int) < i) = true → eqL [AV.agg [AV.str (Ch.zM (List.getD c (Int.toNat ((↑i : Int) - (1 : Int))) Ch.nil)), AV.str (Ch.name (List.getD c (Int.toNat ((↑i : Int) - (1 : Int))) Ch.nil)), AV.int .i64 (Ch.date (List.getD c (Int.toNat ((↑i : Int) - (1 : Int))) Ch.nil)), AV.bool (Ch.first (List.getD c (Int.toNat ((↑i : Int) - (1 : Int))) Ch.nil))], AV.agg [AV.str (Ch.zM (List.getD c (Int.toNat (↑i : Int)) Ch.nil)), AV.str (Ch.name (List.getD c (Int.toNat (↑i : Int)) Ch.nil)), AV.int .i64 (Ch.date (List.getD c (Int.toNat (↑i : Int)) Ch.nil)), AV.bool (Ch.first (List.getD c (Int.toNat (↑i : Int)) Ch.nil))]] [AV.agg [AV.str x.1.zM, AV.str x.1.name, AV.int .i64 x.1.date, AV.bool x.1.first], AV.agg [AV.str x.2.zM, AV.str x.2.name, AV.int .i64 x.2.date, AV.bool x.2.first]] ∧ True) fun n_5 => .all (fun (x : Bool) => (bif bif !n then true else !n_2 then true else !n_4) = false ∧ decide ((0 : Int) < i) = true → x = decide (cmpC n_5.1 n_5.2 < 0)) fun n_6 => .ite (bif bif bif !n then true else !n_2 then true else !n_4 then true else bif decide ((0 : Int) < i) then !n_6 else false) (.leaf (.ret [.int .i64 8] [.box [.sl f.length 3 (fxG f), .sl c.length 4 (chG c)], .box [.str (Ch.zM (List.getD c (Int.toNat (↑i : Int)) Ch.nil)), .str (Ch.name (List.getD c (Int.toNat (↑i : Int)) Ch.nil)), .int .i64 (Ch.date (List.getD c (Int.toNat (↑i : Int)) Ch.nil)), .bool (Ch.first (List.getD c (Int.toNat (↑i : Int)) Ch.nil))]])) (.side (inR .i64 ((↑i : Int) + (1 : Int))) (.leaf (.back 0 [(1, .ptr 0 0), (3, .undef), (5, .int .i64 ((↑i : Int) + (1 : Int))), (34, .undef), (35, .undef), (36, .undef), (37, .undef), (40, .undef), (41, .undef), (42, .undef), (43, .undef), (46, .undef), (47, .undef), (48, .undef), (49, .undef), (50, .undef), (51, .undef), (52, .undef), (53, .undef), (54, .undef), (55, .undef), (56, .undef), (57, .undef), (58, .undef), (77, .undef), (78, .undef), (79, .undef), (80, .undef), (83, .undef), (84, .undef), (85, .undef), (86, .undef), (89, .undef), (90, .undef), (91, .undef), (92, .undef), (93, .undef), (94, .undef), (95, .undef), (96, .undef), (97, .undef), (98, .undef), (99, .undef), (100, .undef), (101, .undef)] [.box [.sl f.length 3 (fxG f), .sl c.length 4 (chG c)], .box [.str (Ch.zM (List.getD c (Int.toNat (↑i : Int)) Ch.nil)), .str (Ch.name (List.getD c (Int.toNat (↑i : Int)) Ch.nil)), .int .i64 (Ch.date (List.getD c (Int.toNat (↑i : Int)) Ch.nil)), .bool (Ch.first (List.getD c (Int.toNat (↑i : Int)) Ch.nil))]]))))))) (.leaf (.ret [.int .i64 0] [.box [.sl f.length 3 (fxG f), .sl c.length 4 (chG c)]]))) (by kernel_rfl) ?_
 simp only [Tree.holds, zd, inR, lo, hi, Int.toNat_natCast]
 refine ⟨fun hlt => ?_, fun hge => ?_⟩
 ·have hlt : i < c.length := by have := of_decide_eq_true hlt; omega
  obtain ⟨hs1, hs2⟩ := hs i hlt
  have e : ((i : Int) - 1).toNat = i - 1 := by omega
  simp only [e]
  have hi0 : ∀ {b : Bool}, b = false ∧ decide (0 < (i : Int)) = true → 0 < i := fun h => by have := of_decide_eq_true h.2; omega
  refine ⟨by omega, fun _ => ⟨(c.getD i Ch.nil).zM, ⟨by simp, by omega⟩, ⟨_, rfl⟩, ?_⟩⟩
  rintro _ rfl
  refine ⟨(c.getD i Ch.nil).name, fun _ => ⟨by simp, by omega⟩, ⟨_, fun _ => rfl⟩, ?_⟩
  intro b1 g1
  refine ⟨(c.getD i Ch.nil).date, fun _ => ⟨by simp, trivial⟩, ⟨_, fun _ => rfl⟩, ?_⟩
  intro b2 g2
  refine ⟨fun h => by have := hi0 h; omega, fun _ => ⟨fun h => by have := hi0 h; omega, fun _ => ⟨(c.getD (i - 1) Ch.nil, c.getD i Ch.nil), fun _ => ⟨by simp, trivial⟩, ⟨_, fun _ => rfl⟩, ?_⟩⟩⟩
  intro b3 g3
  have hok : okC (c.getD i Ch.nil) = (qe (c.getD i Ch.nil).zM && qe (c.getD i Ch.nil).name && dayB (c.getD i Ch.nil).date) := rfl
  simp only at g3
  generalize qe (c.getD i Ch.nil).zM = p1 at *
  generalize qe (c.getD i Ch.nil).name = p2 at *
  generalize dayB (c.getD i Ch.nil).date = p3 at *
  have key : (bif bif !p1 then true else !b1 then true else !b2) = !okC (c.getD i Ch.nil) := by
   rw [hok]
   cases p1 with
   | false => rfl
   | true =>
    have g1 := g1 rfl
    subst g1
    cases b1 with
    | false => rfl
    | true => have g2 := g2 rfl; subst g2; rfl
  rw [key] at g3 ⊢
  refine ⟨fun h => ?_, fun h => ⟨by omega, fun _ => ?_⟩⟩
  ·refine RetR.scal (hq 8 (Y2 hbig ?_).symm) rfl (by simp [resV])
   cases hk : okC (c.getD i Ch.nil) with
   | false =>
    have := KQ hlt hk
    rw [this]; simp
   | true =>
    rw [hk] at h g3
    simp only [Bool.not_true, cond_false] at h
    cases h0 : decide (0 < (i : Int)) with
    | false => rw [h0] at h; cases h
    | true =>
     rw [h0] at h
     have hi1 : 0 < i := by have := of_decide_eq_true h0; omega
     have g3 := g3 ⟨rfl, h0⟩
     rw [g3] at h
     simp only [cond_true, Bool.not_eq_true', decide_eq_false_iff_not] at h
     have e2 : i - 1 + 1 = i := by omega
     have := xO (l := c) (c := cmpC) (z := Ch.nil) (j := i - 1) (by omega) (by rw [e2]; exact h)
     rw [this]; simp
  ·have hk : okC (c.getD i Ch.nil) = true := by
    cases hk : okC (c.getD i Ch.nil) with
    | true => rfl
    | false => rw [hk] at h; cases h
   rw [hk] at h g3
   rw [if_pos trivial]
   refine ⟨⟨i + 1, hlt, fun j hj => ?_, fun j hj => ?_⟩, by show c.length - (i + 1) < c.length - i; omega, by simp [SCE2], by simp [HE, fxS, chS, za], by kernel_rfl, Nat.zero_le _⟩
   ·rcases Nat.lt_or_ge j i with h1 | h1
    ·exact hib j h1
    ·have : j = i := by omega
     rw [this]; exact hk
   ·rcases Nat.lt_or_ge (j + 1) i with h1 | h1
    ·exact hio j h1
    ·have e2 : j + 1 = i := by omega
     have e3 : j = i - 1 := by omega
     have h0 : decide (0 < (i : Int)) = true := decide_eq_true (by omega)
     have g3 := g3 ⟨rfl, h0⟩
     simp only [Bool.not_true, cond_false, h0, cond_true] at h
     rw [e2, e3]
     exact of_decide_eq_true (by rw [← g3]; simpa using h)
 ·have hge : i = c.length := by have := of_decide_eq_false hge; omega
  subst hge
  refine RetR.scal (hq 0 (uR.2 ⟨hbig, hf1, UD hib, hf2, x6 hio⟩).symm) rfl (by simp [resV])
theorem WZ : zc Tryz.prog 46 xM := by
 refine ze (fn := Tryz.f46) (c := Tryz.f46.body.getD .skip) rfl rfl rfl fun p hp O w0 Q hq => ?_
 obtain ⟨f, c⟩ := p
 obtain ⟨h1, h2, h3, h4⟩ := hp
 simp only at hq h1 h2 h3 h4
 refine zb.run hmix Vv [1, 3, 5, 34, 35, 36, 37, 40, 41, 42, 43, 46, 47, 48, 49, 50, 51, 52, 53, 54, 55, 56, 57, 58, 77, 78, 79, 80, 83, 84, 85, 86, 89, 90, 91, 92, 93, 94, 95, 96, 97, 98, 99, 100, 101] 400 (T := .ite (bif decide ((1000 : Int) < f.length) then true else decide ((1000 : Int) < c.length)) (.leaf (.ret [.int .i64 4] [.box [.sl f.length 3 (fxG f), .sl c.length 4 (chG c)]])) (.leaf (.loop (Prod.fst (lps K46 0)) (Prod.snd (lps K46 0)) [(1, .ptr 0 0), (3, .int .i64 0), (5, .undef), (34, .undef), (35, .undef), (36, .undef), (37, .undef), (40, .undef), (41, .undef), (42, .undef), (43, .undef), (46, .undef), (47, .undef), (48, .undef), (49, .undef), (50, .undef), (51, .undef), (52, .undef), (53, .undef), (54, .undef), (55, .undef), (56, .undef), (57, .undef), (58, .undef), (77, .undef), (78, .undef), (79, .undef), (80, .undef), (83, .undef), (84, .undef), (85, .undef), (86, .undef), (89, .undef), (90, .undef), (91, .undef), (92, .undef), (93, .undef), (94, .undef), (95, .undef), (96, .undef), (97, .undef), (98, .undef), (99, .undef), (100, .undef), (101, .undef)] [.box [.sl f.length 3 (fxG f), .sl c.length 4 (chG c)]]))) (by kernel_rfl) ?_
 simp only [Tree.holds, zd]
 refine ⟨fun h => ?_, fun h => ?_⟩
 ·have h : 1000 < f.length ∨ 1000 < c.length := by
   rw [Bool.cond_eq_ite] at h
   split at h
   ·rename_i h1; left; have := of_decide_eq_true h1; omega
   ·right; have := of_decide_eq_true h; omega
  exact RetR.scal (hq 4 (if_pos h).symm) rfl (by simp [resV])
 ·have hbig : ¬ (1000 < f.length ∨ 1000 < c.length) := by
   rw [Bool.cond_eq_ite] at h
   split at h
   ·cases h
   ·rename_i h1
    have h2 := of_decide_eq_false h
    rintro (h3 | h3)
    ·exact h1 (decide_eq_true (by omega))
    ·omega
  refine zb.loop (ι := {i : Nat // i ≤ f.length ∧ (∀ j, j < i → okF (f.getD j Fx.nil) = true) ∧ ∀ j, j + 1 < i → cmpF (f.getD j Fx.nil) (f.getD (j + 1) Fx.nil) < 0}) (fun i => SCE1 i.1) (fun _ => HE f c) (fun i => f.length - i.1) ⟨0, Nat.zero_le _, fun j hj => by omega, fun j hj => by omega⟩ 0 ?_ ?_ (by kernel_rfl)
  ·exact ⟨by simp [SCE1], by simp [HE, fxS, chS, za], by kernel_rfl, Nat.zero_le _⟩
  ·rintro ⟨i, hil, hib, hio⟩
   refine zb.run hmix Vv [1, 3, 5, 34, 35, 36, 37, 40, 41, 42, 43, 46, 47, 48, 49, 50, 51, 52, 53, 54, 55, 56, 57, 58, 77, 78, 79, 80, 83, 84, 85, 86, 89, 90, 91, 92, 93, 94, 95, 96, 97, 98, 99, 100, 101] 400 (T := .ite (decide ((↑i : Int) < f.length)) (.side ((0 : Int) ≤ i ∧ (↑i : Int) < f.length) (.ex (fun (x : List UInt8) => eqL [AV.str (Fx.name (List.getD f (Int.toNat (↑i : Int)) Fx.nil))] [AV.str x] ∧ x.length < 4611686018427387904) fun n => .all (fun (r : Bool) => r = qe n) fun n => .ex (fun (x : Int) => (!n) = false → eqL [AV.int .i64 (Fx.date (List.getD f (Int.toNat (↑i : Int)) Fx.nil))] [AV.int .i64 x] ∧ True) fun n_1 => .all (fun (x : Bool) => (!n) = false → x = dayB n_1) fun n_2 => .ex (fun (x : List UInt8) => (bif !n then true else !n_2) = false → eqL [AV.str (Fx.value (List.getD f (Int.toNat (↑i : Int)) Fx.nil))] [AV.str x] ∧ x.length < 1099511627776) fun n_3 => .all (fun (x : Int) => (bif !n then true else !n_2) = false → x = errR n_3) fun n_4 => .side ((bif bif !n then true else !n_2 then true else !decide (n_4 = 0)) = false ∧ decide ((0 : Int) < i) = true → inR .i64 ((↑i : Int) - (1 : Int))) (.side ((bif bif !n then true else !n_2 then true else !decide (n_4 = 0)) = false ∧ decide ((0 : Int) < i) = true → (0 : Int) ≤ i - (1 : Int) ∧ (↑i : Int) - (1 : Int) < f.length) (.ex (fun (x : Fx × Fx) => (bif bif !n then true else !n_2 then true else !decide (n_4 = 0)) = false ∧ decide ((0 : Int) < i) = true → eqL [AV.agg [AV.str (Fx.name (List.getD f (Int.toNat ((↑i : Int) - (1 : Int))) Fx.nil)), AV.int .i64 (Fx.date (List.getD f (Int.toNat ((↑i : Int) - (1 : Int))) Fx.nil)), AV.str (Fx.value (List.getD f (Int.toNat ((↑i : Int) - (1 : Int))) Fx.nil))], AV.agg [AV.str (Fx.name (List.getD f (Int.toNat (↑i : Int)) Fx.nil)), AV.int .i64 (Fx.date (List.getD f (Int.toNat (↑i : Int)) Fx.nil)), AV.str (Fx.value (List.getD f (Int.toNat (↑i : Int)) Fx.nil))]] [AV.agg [AV.str x.1.name, AV.int .i64 x.1.date, AV.str x.1.value], AV.agg [AV.str x.2.name, AV.int .i64 x.2.date, AV.str x.2.value]] ∧ True) fun n_5 => .all (fun (x : Bool) => (bif bif !n then true else !n_2 then true else !decide (n_4 = 0)) = false ∧ decide ((0 : Int) < i) = true → x = decide (cmpF n_5.1 n_5.2 < 0)) fun n_6 => .ite (bif bif bif !n then true else !n_2 then true else !decide (n_4 = 0) then true else bif decide ((0 : Int) < i) then !n_6 else false) (.leaf (.ret [.int .i64 8] [.box [.sl f.length 3 (fxG f), .sl c.length 4 (chG c)], .box [.str (Fx.name (List.getD f (Int.toNat (↑i : Int)) Fx.nil)), .int .i64 (Fx.date (List.getD f (Int.toNat (↑i : Int)) Fx.nil)), .str (Fx.value (List.getD f (Int.toNat (↑i : Int)) Fx.nil))]])) (.side (inR .i64 ((↑i : Int) + (1 : Int))) (.leaf (.back 0 [(1, .ptr 0 0), (3, .int .i64 ((↑i : Int) + (1 : Int))), (5, .undef), (34, .undef), (35, .undef), (36, .undef), (37, .undef), (40, .undef), (41, .undef), (42, .undef), (43, .undef), (46, .undef), (47, .undef), (48, .undef), (49, .undef), (50, .undef), (51, .undef), (52, .undef), (53, .undef), (54, .undef), (55, .undef), (56, .undef), (57, .undef), (58, .undef), (77, .undef), (78, .undef), (79, .undef), (80, .undef), (83, .undef), (84, .undef), (85, .undef), (86, .undef), (89, .undef), (90, .undef), (91, .undef), (92, .undef), (93, .undef), (94, .undef), (95, .undef), (96, .undef), (97, .undef), (98, .undef), (99, .undef), (100, .undef), (101, .undef)] [.box [.sl f.length 3 (fxG f), .sl c.length 4 (chG c)], .box [.str (Fx.name (List.getD f (Int.toNat (↑i : Int)) Fx.nil)), .int .i64 (Fx.date (List.getD f (Int.toNat (↑i : Int)) Fx.nil)), .str (Fx.value (List.getD f (Int.toNat (↑i : Int)) Fx.nil))]]))))))) (.leaf (.loop (Prod.fst (lps (inside K46 0) 0)) (Prod.snd (lps (inside K46 0) 0)) [(1, .ptr 0 0), (3, .int .i64 i), (5, .int .i64 0), (34, .undef), (35, .undef), (36, .undef), (37, .undef), (40, .undef), (41, .undef), (42, .undef), (43, .undef), (46, .undef), (47, .undef), (48, .undef), (49, .undef), (50, .undef), (51, .undef), (52, .undef), (53, .undef), (54, .undef), (55, .undef), (56, .undef), (57, .undef), (58, .undef), (77, .undef), (78, .undef), (79, .undef), (80, .undef), (83, .undef), (84, .undef), (85, .undef), (86, .undef), (89, .undef), (90, .undef), (91, .undef), (92, .undef), (93, .undef), (94, .undef), (95, .undef), (96, .undef), (97, .undef), (98, .undef), (99, .undef), (100, .undef), (101, .undef)] [.box [.sl f.length 3 (fxG f), .sl c.length 4 (chG c)]]))) (by kernel_rfl) ?_
   simp only [Tree.holds, zd, inR, lo, hi, Int.toNat_natCast]
   refine ⟨fun hlt => ?_, fun hge => ?_⟩
   ·have hlt : i < f.length := by have := of_decide_eq_true hlt; omega
    obtain ⟨hs1, hs2⟩ := h3 i hlt
    have e : ((i : Int) - 1).toNat = i - 1 := by omega
    simp only [e]
    have hi0 : ∀ {b : Bool}, b = false ∧ decide (0 < (i : Int)) = true → 0 < i := fun h => by have := of_decide_eq_true h.2; omega
    refine ⟨by omega, fun _ => ⟨(f.getD i Fx.nil).name, ⟨by simp, by omega⟩, ⟨_, rfl⟩, ?_⟩⟩
    rintro _ rfl
    refine ⟨(f.getD i Fx.nil).date, fun _ => ⟨by simp, trivial⟩, ⟨_, fun _ => rfl⟩, ?_⟩
    intro b1 g1
    refine ⟨(f.getD i Fx.nil).value, fun _ => ⟨by simp, by omega⟩, ⟨_, fun _ => rfl⟩, ?_⟩
    intro b2 g2
    refine ⟨fun h => by have := hi0 h; omega, fun _ => ⟨fun h => by have := hi0 h; omega, fun _ => ⟨(f.getD (i - 1) Fx.nil, f.getD i Fx.nil), fun _ => ⟨by simp, trivial⟩, ⟨_, fun _ => rfl⟩, ?_⟩⟩⟩
    intro b3 g3
    have hok : okF (f.getD i Fx.nil) = (qe (f.getD i Fx.nil).name && dayB (f.getD i Fx.nil).date && decide (errR (f.getD i Fx.nil).value = 0)) := rfl
    simp only at g3
    generalize qe (f.getD i Fx.nil).name = p1 at *
    generalize dayB (f.getD i Fx.nil).date = p2 at *
    generalize errR (f.getD i Fx.nil).value = p3 at *
    have key : (bif bif !p1 then true else !b1 then true else !decide (b2 = 0)) = !okF (f.getD i Fx.nil) := by
     rw [hok]
     cases p1 with
     | false => rfl
     | true =>
      have g1 := g1 rfl
      subst g1
      cases b1 with
      | false => rfl
      | true => have g2 := g2 rfl; subst g2; rfl
    rw [key] at g3 ⊢
    refine ⟨fun h => ?_, fun h => ⟨by omega, fun _ => ?_⟩⟩
    ·refine RetR.scal (hq 8 (Y2 hbig ?_).symm) rfl (by simp [resV])
     cases hk : okF (f.getD i Fx.nil) with
     | false =>
      have := KQ hlt hk
      rw [this]; simp
     | true =>
      rw [hk] at h g3
      simp only [Bool.not_true, cond_false] at h
      cases h0 : decide (0 < (i : Int)) with
      | false => rw [h0] at h; cases h
      | true =>
       rw [h0] at h
       have hi1 : 0 < i := by have := of_decide_eq_true h0; omega
       have g3 := g3 ⟨rfl, h0⟩
       rw [g3] at h
       simp only [cond_true, Bool.not_eq_true', decide_eq_false_iff_not] at h
       have e2 : i - 1 + 1 = i := by omega
       have := xO (l := f) (c := cmpF) (z := Fx.nil) (j := i - 1) (by omega) (by rw [e2]; exact h)
       rw [this]; simp
    ·have hk : okF (f.getD i Fx.nil) = true := by
      cases hk : okF (f.getD i Fx.nil) with
      | true => rfl
      | false => rw [hk] at h; cases h
     rw [hk] at h g3
     rw [if_pos trivial]
     refine ⟨⟨i + 1, hlt, fun j hj => ?_, fun j hj => ?_⟩, by show f.length - (i + 1) < f.length - i; omega, by simp [SCE1], by simp [HE, fxS, chS, za], by kernel_rfl, Nat.zero_le _⟩
     ·rcases Nat.lt_or_ge j i with h1 | h1
      ·exact hib j h1
      ·have : j = i := by omega
       rw [this]; exact hk
     ·rcases Nat.lt_or_ge (j + 1) i with h1 | h1
      ·exact hio j h1
      ·have e2 : j + 1 = i := by omega
       have e3 : j = i - 1 := by omega
       have h0 : decide (0 < (i : Int)) = true := decide_eq_true (by omega)
       have g3 := g3 ⟨rfl, h0⟩
       simp only [Bool.not_true, cond_false, h0, cond_true] at h
       rw [e2, e3]
       exact of_decide_eq_true (by rw [← g3]; simpa using h)
   ·have hge : i = f.length := by have := of_decide_eq_false hge; omega
    subst hge
    exact ZO f c hbig h4 (UD hib) (x6 hio) hq _ _ ⟨by simp [SCE2], by simp [HE, fxS, chS, za], by kernel_rfl, Nat.zero_le _⟩
def KH : Ctr := ctrP true (fun p : (List Fx × List Ch) × (List UInt8 × Int) => [envA p.1.1 p.1.2, .str p.2.1, .int .i64 p.2.2]) (fun p => p.1.1.length < 2 ^ 40) (fun p r => r = jp p.1.1 p.2.1 p.2.2) (fun _ r => (.tup [.str r.1, .bool r.2], []))
theorem YP : zc Tryz.prog 82 KH := by
 refine ze (fn := Tryz.f82) (c := Tryz.f82.body.getD .skip) rfl rfl rfl fun p hp O w0 Q hq => ?_
 obtain ⟨⟨f, c⟩, ⟨a, d⟩⟩ := p
 replace hq := hq _ rfl
 simp only at hq hp
 refine zb.run hmix zo [1, 2, 3, 8, 25, 26, 27, 28, 29, 30, 31, 32] 400 (T := .leaf (.loop (Prod.fst (lps K82 0)) (Prod.snd (lps K82 0)) [(1, .str a), (2, .int .i64 d), (3, .ptr 0 0), (8, .int .i64 0), (25, .undef), (26, .undef), (27, .undef), (28, .undef), (29, .undef), (30, .undef), (31, .undef), (32, .undef)] [.box [.sl f.length 3 (fxG f), .sl c.length 4 (chG c)]])) (by kernel_rfl) ?_
 simp only [Tree.holds, zd]
 refine zb.loop (ι := {i : Nat // i ≤ f.length ∧ ∀ j, j < i → (decide ((f.getD j Fx.nil).name = a) && decide ((f.getD j Fx.nil).date = d)) = false}) (fun i => SFi a d i.1) (fun _ => HE f c) (fun i => f.length - i.1) ⟨0, Nat.zero_le _, fun j hj => by omega⟩ 0 ?_ ?_ (by kernel_rfl)
 ·exact ⟨by simp [SFi], by simp [HE, fxS, chS, za], by kernel_rfl, Nat.zero_le _⟩
 ·rintro ⟨i, hil, hib⟩
  refine zb.run hmix zo [1, 2, 3, 8, 25, 26, 27, 28, 29, 30, 31, 32] 400 (T := .ite (decide ((↑i : Int) < f.length)) (.side ((0 : Int) ≤ i ∧ (↑i : Int) < f.length) (.side (decide (Fx.name (List.getD f (Int.toNat (↑i : Int)) Fx.nil) = a) = true → (0 : Int) ≤ i ∧ (↑i : Int) < f.length) (.ite (bif decide (Fx.name (List.getD f (Int.toNat (↑i : Int)) Fx.nil) = a) then decide (Fx.date (List.getD f (Int.toNat (↑i : Int)) Fx.nil) = d) else false) (.side ((0 : Int) ≤ i ∧ (↑i : Int) < f.length) (.leaf (.ret [.str (Fx.value (List.getD f (Int.toNat (↑i : Int)) Fx.nil)), .bool true] [.box [.sl f.length 3 (fxG f), .sl c.length 4 (chG c)]]))) (.side (inR .i64 ((↑i : Int) + (1 : Int))) (.leaf (.back 0 [(1, .str a), (2, .int .i64 d), (3, .ptr 0 0), (8, .int .i64 ((↑i : Int) + (1 : Int))), (25, .undef), (26, .undef), (27, .undef), (28, .undef), (29, .undef), (30, .undef), (31, .undef), (32, .undef)] [.box [.sl f.length 3 (fxG f), .sl c.length 4 (chG c)]])))))) (.leaf (.ret [.str (Array.toList #[]), .bool false] [.box [.sl f.length 3 (fxG f), .sl c.length 4 (chG c)]]))) (by kernel_rfl) ?_
  simp only [Tree.holds, zd, inR, lo, hi, Int.toNat_natCast]
  refine ⟨fun hlt => ?_, fun hge => ?_⟩
  ·have hlt : i < f.length := by have := of_decide_eq_true hlt; omega
   have key : (bif decide ((f.getD i Fx.nil).name = a) then decide ((f.getD i Fx.nil).date = d) else false) = (decide ((f.getD i Fx.nil).name = a) && decide ((f.getD i Fx.nil).date = d)) := by cases decide ((f.getD i Fx.nil).name = a) <;> rfl
   rw [key]
   refine ⟨by omega, fun _ => ⟨fun _ => by omega, fun _ => ⟨fun h => ⟨by omega, fun _ => ?_⟩, fun h => ⟨by omega, fun _ => ?_⟩⟩⟩⟩
   ·have := Kn (p := fun x : Fx => decide (x.name = a) && decide (x.date = d)) hlt h hib
    have hr : jp f a d = ((f.getD i Fx.nil).value, true) := by unfold jp; rw [this]
    rw [hr] at hq
    exact RetR.scal hq rfl (by simp [resV])
   ·rw [if_pos trivial]
    refine ⟨⟨i + 1, hlt, fun j hj => ?_⟩, by show f.length - (i + 1) < f.length - i; omega, by simp [SFi], by simp [HE, fxS, chS, za], by kernel_rfl, Nat.zero_le _⟩
    rcases Nat.lt_or_ge j i with h1 | h1
    ·exact hib j h1
    ·have : j = i := by omega
     rw [this]; exact h
  ·have hge : i = f.length := by have := of_decide_eq_false hge; omega
   subst hge
   have := zc4 (p := fun x : Fx => decide (x.name = a) && decide (x.date = d)) hib
   have hr : jp f a d = ([], false) := by unfold jp; rw [this]
   rw [hr] at hq
   exact RetR.scal hq rfl (by simp [resV])
end Go.Proofs.Tryz
end

/- Lists of what is known, as slices: pushed, set, put in between. -/
section
namespace Go.Nov
open Go.Sx
theorem Xt {α : Type} {p : α → Bool} (z : α) (l : List α) : idxB p l < l.length ∧ l.find? p = if 0 ≤ idxB p l then some (l.getD (idxB p l).toNat z) else none := by
 unfold idxB
 by_cases h : l.findIdx p < l.length
 ·rw [if_pos h]
  refine ⟨by omega, ?_⟩
  rw [if_pos (by omega), Int.toNat_natCast]
  refine Kn h ?_ fun j hj => ?_
  ·have := List.findIdx_getElem (w := h)
   simpa [List.getD, h] using this
  ·have := List.not_of_lt_findIdx hj
   have hjl : j < l.length := by omega
   simpa [List.getD, hjl] using this
 ·rw [if_neg h]
  refine ⟨by omega, ?_⟩
  rw [if_neg (by omega), List.find?_eq_none]
  intro x hx hpx
  exact h (List.findIdx_lt_length_of_exists ⟨x, hx, hpx⟩)
theorem YR (f : List Fx) (a : List UInt8) (d : Int) : idxB (fun x => decide (cmpF x ⟨a, d, []⟩ = 0)) f < f.length ∧ jp f a d = if 0 ≤ idxB (fun x => decide (cmpF x ⟨a, d, []⟩ = 0)) f then ((f.getD (idxB (fun x => decide (cmpF x ⟨a, d, []⟩ = 0)) f).toNat Fx.nil).value, true) else ([], false) := by
 obtain ⟨h1, h2⟩ := Xt (p := fun x => decide (cmpF x ⟨a, d, []⟩ = 0)) Fx.nil f
 refine ⟨h1, ?_⟩
 have e : (fun x : Fx => decide (x.name = a) && decide (x.date = d)) = fun x => decide (cmpF x ⟨a, d, []⟩ = 0) := by
  funext x
  rw [← Bool.decide_and]; exact decide_eq_decide.2 (@zcp x ⟨a, d, []⟩).symm
 unfold jp
 rw [e, h2]
 by_cases h : 0 ≤ idxB (fun x => decide (cmpF x ⟨a, d, []⟩ = 0)) f
 ·rw [if_pos h, if_pos h]
 ·rw [if_neg h, if_neg h]
end Go.Nov
end

/- What is known: the reference's copies and places. -/
section
set_option maxRecDepth 100000
open Go Go.Sx Go.Proofs Go.Nov
namespace Go.Proofs.Tryz
attribute [local simp] eqKV eqA eqA0 eqH eqB eqL eqL0
end Go.Proofs.Tryz
end

/- What is known: size; the code's finding. -/
section
set_option maxRecDepth 100000
open Go Go.Sx Go.Proofs Go.Nov
namespace Go.Proofs.Tryz
attribute [local simp] eqKV eqA eqA0 eqH eqB eqL eqL0
noncomputable def K6 : List Go.Sx.Item := [.code (Tryz.f6.body.getD .skip)]
noncomputable def K124 : List Go.Sx.Item := [.code (Tryz.f124.body.getD .skip)]
noncomputable def K97 : List Go.Sx.Item := [.code (Tryz.f97.body.getD .skip)]
noncomputable def K77 : List Go.Sx.Item := [.code (Tryz.f77.body.getD .skip)]
def YL (f : Fx) : Prop := f.name.length < 2 ^ 49 ∧ f.value.length < 2 ^ 49
def Xo (c : Ch) : Prop := c.zM.length < 2 ^ 49 ∧ c.name.length < 2 ^ 49
def fitP (p : List Fx × List Ch) : Prop := p.1.length ≤ 1100 ∧ p.2.length ≤ 1100 ∧ (∀ j, j < p.1.length → (p.1.getD j Fx.nil).name.length ≤ 20000 ∧ (p.1.getD j Fx.nil).value.length ≤ 20000) ∧ ∀ j, j < p.2.length → (p.2.getD j Ch.nil).zM.length ≤ 20000 ∧ (p.2.getD j Ch.nil).name.length ≤ 20000
def V5 : Ctr := ctrP true (fun p : List Fx × List Ch => [envA p.1 p.2]) (fun p => p.1.length < 2 ^ 60 ∧ p.2.length < 2 ^ 60 ∧ (∀ j, j < p.1.length → YL (p.1.getD j Fx.nil)) ∧ ∀ j, j < p.2.length → Xo (p.2.getD j Ch.nil)) (fun p r => r = false → fitP p) (fun _ (r : Bool) => (.bool r, []))
def SGq (n i : Nat) : KV := [(1, .ptr 0 0), (3, .int .i64 (n : Int)), (4, .int .i64 (i : Int)), (5, .undef)]
def SGq2 (n i : Nat) : KV := [(1, .ptr 0 0), (3, .int .i64 (n : Int)), (4, .undef), (5, .int .i64 (i : Int))]
theorem Wm {O : Nat → Prop} {w0 : World} {Q : AV × Heap → Prop} {Hs : Nat → KV → Heap → Prop} (f : List Fx) (c : List Ch) (n : Nat) (hf : f.length ≤ 1100) (hc : c.length ≤ 1100) (h3 : ∀ j, j < c.length → Xo (c.getD j Ch.nil)) (hn : n ≤ 1100 * 2 ^ 50) (hnf : ∀ j, j < f.length → (f.getD j Fx.nil).name.length ≤ n ∧ (f.getD j Fx.nil).value.length ≤ n)
  (hq : ∀ r : Bool, (r = false → fitP (f, c)) → Q (.bool r, [])) (kv : KV) (h : Heap) (hle : LeK 0 Tryz.f6.ntmps kv h (SGq2 n 0) (HE f c)) :
  zb Tryz.prog Tryz.f6 O 0 w0 [] Hs (RetR V5 0 Q) (.code (.loop (lps (inside K6 0) 0).1) :: (lps (inside K6 0) 0).2) (mk Tryz.f6.ntmps kv h) := by
 refine zb.loop (ι := {p : Nat × Nat // p.2 ≤ c.length ∧ n ≤ p.1 ∧ p.1 ≤ (1100 + p.2) * 2 ^ 50 ∧ ∀ j, j < p.2 → (c.getD j Ch.nil).zM.length ≤ p.1 ∧ (c.getD j Ch.nil).name.length ≤ p.1}) (fun p => SGq2 p.1.1 p.1.2) (fun _ => HE f c) (fun p => c.length - p.1.2) ⟨(n, 0), Nat.zero_le _, Nat.le_refl _, by simpa using hn, fun j hj => by simp at hj⟩ 0 hle ?_ (by kernel_rfl)
 rintro ⟨⟨m, i⟩, hil, hnm, hm, hib⟩
 simp only at hil hnm hm hib
 refine zb.run hmix zo [1, 3, 4, 5] 400 (T := .ite (decide ((↑i : Int) < c.length)) (.side ((0 : Int) ≤ i ∧ (↑i : Int) < c.length) (.side (inR .i64 ((↑m : Int) + (↑(List.length (Ch.zM (List.getD c (Int.toNat (↑i : Int)) Ch.nil))) : Int))) (.side ((0 : Int) ≤ i ∧ (↑i : Int) < c.length) (.side (inR .i64 ((↑m : Int) + (↑(List.length (Ch.zM (List.getD c (Int.toNat (↑i : Int)) Ch.nil))) : Int) + (↑(List.length (Ch.name (List.getD c (Int.toNat (↑i : Int)) Ch.nil))) : Int))) (.side (inR .i64 ((↑i : Int) + (1 : Int))) (.leaf (.back 0 [(1, .ptr 0 0), (3, .int .i64 ((↑m : Int) + (↑(List.length (Ch.zM (List.getD c (Int.toNat (↑i : Int)) Ch.nil))) : Int) + (↑(List.length (Ch.name (List.getD c (Int.toNat (↑i : Int)) Ch.nil))) : Int))), (4, .undef), (5, .int .i64 ((↑i : Int) + (1 : Int)))] [.box [.sl f.length 3 (fxG f), .sl c.length 4 (chG c)]]))))))) (.leaf (.ret [.bool (decide ((20000 : Int) < m))] [.box [.sl f.length 3 (fxG f), .sl c.length 4 (chG c)]]))) (by kernel_rfl) ?_
 simp only [Tree.holds, zd, inR, lo, hi, Int.toNat_natCast]
 refine ⟨fun hlt => ?_, fun hge => ?_⟩
 ·have hlt : i < c.length := by have := of_decide_eq_true hlt; omega
  obtain ⟨g1, g2⟩ := h3 i hlt
  iterate 5 refine ⟨by omega, fun _ => ?_⟩
  rw [if_pos trivial]
  refine ⟨⟨(m + (c.getD i Ch.nil).zM.length + (c.getD i Ch.nil).name.length, i + 1), hlt, by simp only; omega, by simp only; omega, fun j hj => ?_⟩, by show c.length - (i + 1) < c.length - i; omega, by simp [SGq2], by simp [HE, fxS, chS, za], by kernel_rfl, Nat.zero_le _⟩
  simp only at hj ⊢
  rcases Nat.lt_or_ge j i with h1 | h1
  ·have := hib j h1; omega
  ·have : j = i := by omega
   rw [this]; omega
 ·have hge : i = c.length := by have := of_decide_eq_false hge; omega
  subst hge
  refine RetR.scal (hq (decide (20000 < (m : Int))) fun h => ?_) rfl (by simp [resV])
  have h := of_decide_eq_false h
  exact ⟨hf, hc, fun j hj => by have := hnf j hj; simp only; omega, fun j hj => by have := hib j hj; simp only; omega⟩
theorem zb3 : zc Tryz.prog 6 V5 := by
 refine ze (fn := Tryz.f6) (c := Tryz.f6.body.getD .skip) rfl rfl rfl fun p hp O w0 Q hq => ?_
 obtain ⟨f, c⟩ := p
 obtain ⟨h1, h2, h3, h4⟩ := hp
 simp only at hq h1 h2 h3 h4
 refine zb.run hmix zo [1, 3, 4, 5] 400 (T := .ite (bif decide ((1100 : Int) < f.length) then true else decide ((1100 : Int) < c.length)) (.leaf (.ret [.bool true] [.box [.sl f.length 3 (fxG f), .sl c.length 4 (chG c)]])) (.leaf (.loop (Prod.fst (lps K6 0)) (Prod.snd (lps K6 0)) [(1, .ptr 0 0), (3, .int .i64 0), (4, .int .i64 0), (5, .undef)] [.box [.sl f.length 3 (fxG f), .sl c.length 4 (chG c)]]))) (by kernel_rfl) ?_
 simp only [Tree.holds, zd]
 refine ⟨fun h => ?_, fun h => ?_⟩
 ·exact RetR.scal (hq true fun h => (by cases h)) rfl (by simp [resV])
 ·have hbig : f.length ≤ 1100 ∧ c.length ≤ 1100 := by
   rw [Bool.cond_eq_ite] at h
   split at h
   ·cases h
   ·rename_i g1
    have g2 := of_decide_eq_false h
    have g1 := of_decide_eq_false (by simpa using g1 : decide (1100 < (f.length : Int)) = false)
    omega
  obtain ⟨hf, hc⟩ := hbig
  refine zb.loop (ι := {p : Nat × Nat // p.2 ≤ f.length ∧ p.1 ≤ p.2 * 2 ^ 50 ∧ ∀ j, j < p.2 → (f.getD j Fx.nil).name.length ≤ p.1 ∧ (f.getD j Fx.nil).value.length ≤ p.1}) (fun p => SGq p.1.1 p.1.2) (fun _ => HE f c) (fun p => f.length - p.1.2) ⟨(0, 0), Nat.zero_le _, by simp, fun j hj => by simp at hj⟩ 0 ?_ ?_ (by kernel_rfl)
  ·exact ⟨by simp [SGq], by simp [HE, fxS, chS, za], by kernel_rfl, Nat.zero_le _⟩
  ·rintro ⟨⟨m, i⟩, hil, hm, hib⟩
   simp only at hil hm hib
   refine zb.run hmix zo [1, 3, 4, 5] 400 (T := .ite (decide ((↑i : Int) < f.length)) (.side ((0 : Int) ≤ i ∧ (↑i : Int) < f.length) (.side (inR .i64 ((↑m : Int) + (↑(List.length (Fx.name (List.getD f (Int.toNat (↑i : Int)) Fx.nil))) : Int))) (.side ((0 : Int) ≤ i ∧ (↑i : Int) < f.length) (.side (inR .i64 ((↑m : Int) + (↑(List.length (Fx.name (List.getD f (Int.toNat (↑i : Int)) Fx.nil))) : Int) + (↑(List.length (Fx.value (List.getD f (Int.toNat (↑i : Int)) Fx.nil))) : Int))) (.side (inR .i64 ((↑i : Int) + (1 : Int))) (.leaf (.back 0 [(1, .ptr 0 0), (3, .int .i64 ((↑m : Int) + (↑(List.length (Fx.name (List.getD f (Int.toNat (↑i : Int)) Fx.nil))) : Int) + (↑(List.length (Fx.value (List.getD f (Int.toNat (↑i : Int)) Fx.nil))) : Int))), (4, .int .i64 ((↑i : Int) + (1 : Int))), (5, .undef)] [.box [.sl f.length 3 (fxG f), .sl c.length 4 (chG c)]]))))))) (.leaf (.loop (Prod.fst (lps (inside K6 0) 0)) (Prod.snd (lps (inside K6 0) 0)) [(1, .ptr 0 0), (3, .int .i64 m), (4, .int .i64 i), (5, .int .i64 0)] [.box [.sl f.length 3 (fxG f), .sl c.length 4 (chG c)]]))) (by kernel_rfl) ?_
   simp only [Tree.holds, zd, inR, lo, hi, Int.toNat_natCast]
   refine ⟨fun hlt => ?_, fun hge => ?_⟩
   ·have hlt : i < f.length := by have := of_decide_eq_true hlt; omega
    obtain ⟨g1, g2⟩ := h3 i hlt
    iterate 5 refine ⟨by omega, fun _ => ?_⟩
    rw [if_pos trivial]
    refine ⟨⟨(m + (f.getD i Fx.nil).name.length + (f.getD i Fx.nil).value.length, i + 1), hlt, by simp only; omega, fun j hj => ?_⟩, by show f.length - (i + 1) < f.length - i; omega, by simp [SGq], by simp [HE, fxS, chS, za], by kernel_rfl, Nat.zero_le _⟩
    simp only at hj ⊢
    rcases Nat.lt_or_ge j i with h1 | h1
    ·have := hib j h1; omega
    ·have : j = i := by omega
     rw [this]; omega
   ·have hge : i = f.length := by have := of_decide_eq_false hge; omega
    subst hge
    exact Wm f c m hf hc h4 (Nat.le_trans hm (Nat.mul_le_mul_right _ hf)) hib hq _ _ ⟨by simp [SGq2], by simp [HE, fxS, chS, za], by kernel_rfl, Nat.zero_le _⟩
def HIdF (x : Fx) : Heap := [.box [.fn 57 [] []], .box [.str x.name, .int .i64 x.date, .str x.value]]
def ze2 : Ctr := ctrT false false (fun p : Fx × Fx => [p.1.av, .ptr 0 0, .ptr 1 0]) (fun p => HIdF p.2) (fun _ => True) (fun p r => r = decide (cmpF p.1 p.2 = 0)) (fun p (r : Bool) => (.bool r, HIdF p.2))
def GI1 : Nat → Option Ctr := fun f => if f = 57 then some (Z5) else if f = 76 then some (Zs) else none
theorem zf8 : ∀ g c, GI1 g = some c → zc Tryz.prog g c := okIf Z9 (okIf uP (okNone))
theorem zc7 : zc Tryz.prog 124 ze2 := by
 refine zN (fn := Tryz.f124) (c := Tryz.f124.body.getD .skip) rfl rfl rfl (fun h => by cases h) fun p hp O w0 σ0 Q hl0 hq => ?_
 obtain ⟨⟨a, d, v⟩, ⟨b, e, u⟩⟩ := p
 replace hq := hq _ rfl
 simp only at hq
 refine zb.run hmix zf8 [] 400 (T := .ex (fun (x : Fx × Fx) => eqL [AV.agg [AV.str a, AV.int .i64 d, AV.str v], AV.agg [AV.str b, AV.int .i64 e, AV.str u]] [AV.agg [AV.str x.1.name, AV.int .i64 x.1.date, AV.str x.1.value], AV.agg [AV.str x.2.name, AV.int .i64 x.2.date, AV.str x.2.value]] ∧ True) fun n => .all (fun (r : Int) => r = cmpF n.1 n.2) fun n => .leaf (.ret [.bool (decide (n = 0))] [.box [.fn 57 [] []], .box [.str b, .int .i64 e, .str u], .box [.str a, .int .i64 d, .str v]])) (by kernel_rfl) ?_
 simp only [Tree.holds, zd]
 refine ⟨(⟨a, d, v⟩, ⟨b, e, u⟩), ⟨by simp, trivial⟩, ⟨_, rfl⟩, ?_⟩
 rintro _ rfl
 exact RetR.keep [0, 1] rfl rfl (by show ∀ j, j < 2 → _; decide) rfl hq (by simp [resV, exp2, exp1, exp0, ren0, eqA2]) (by simp [expH, expB, exp1, exp0, ren0, HIdF]) rfl
def SIdF (l : List Fx) (i : Nat) : KV := [(0, fxS l), (1, .fn 124 [] [.ptr 0 0, .ptr 1 0]), (7, .int .i64 (l.length : Int)), (8, .int .i64 (i : Int))]
def UN : Ctr := ctrT false false (fun p : List Fx × Fx => [fxS p.1, .fn 124 [] [.ptr 0 0, .ptr 1 0]]) (fun p => HIdF p.2) (fun p => p.1.length < 2 ^ 40) (fun p r => r = idxB (fun x => decide (cmpF x p.2 = 0)) p.1) (fun p (r : Int) => (.int .i64 r, HIdF p.2))
def GI2 : Nat → Option Ctr := fun f => if f = 124 then some (ze2) else none
theorem zbd : ∀ g c, GI2 g = some c → zc Tryz.prog g c := okIf zc7 (okNone)
theorem zco : zc Tryz.prog 109 UN := by
 refine zN (fn := Tryz.f109) (c := Tryz.f109.body.getD .skip) rfl rfl rfl (fun h => by cases h) fun p hl O w0 σ0 Q hl0 hq => ?_
 obtain ⟨l, x⟩ := p
 replace hq := hq _ rfl
 simp only at hq hl
 refine zb.run hmix zbd [0, 1, 7, 8] 400 (T := .leaf (.loop (Prod.fst (lps K109 0)) (Prod.snd (lps K109 0)) [(0, .sl l.length 3 (fxG l)), (1, .fn 124 [] [.ptr 0 0, .ptr 1 0]), (7, .int .i64 l.length), (8, .int .i64 0)] [.box [.fn 57 [] []], .box [.str x.name, .int .i64 x.date, .str x.value]])) (by kernel_rfl) ?_
 simp only [Tree.holds, zd]
 have fin : ∀ (i : Int) (h : Heap), i = idxB (fun y => decide (cmpF y x = 0)) l → h = HIdF x → RetR UN 2 Q [.int .i64 i] h := by
  intro i h hi2 hh
  subst hh
  rw [← hi2] at hq
  exact RetR.keep [0, 1] rfl rfl (by show ∀ j, j < 2 → _; decide) rfl hq (by simp [resV, exp2, exp1, exp0, ren0, eqA2]) (by simp [expH, expB, exp1, exp0, ren0, HIdF]) rfl
 refine zb.loop (ι := {i : Nat // i ≤ l.length ∧ ∀ j, j < i → decide (cmpF (l.getD j Fx.nil) x = 0) = false}) (fun i => SIdF l i.1) (fun _ => HIdF x) (fun i => l.length - i.1) ⟨0, Nat.zero_le _, fun j hj => by omega⟩ 0 ?_ ?_ (by kernel_rfl)
 ·exact ⟨by simp [SIdF, fxS, za], by simp [HIdF], by kernel_rfl, Nat.le_refl _⟩
 ·rintro ⟨i, hil, hib⟩
  refine zb.run hmix zbd [0, 1, 7, 8] 400 (T := .ite (decide ((↑i : Int) < l.length)) (.side ((0 : Int) ≤ i ∧ (↑i : Int) < l.length) (.ex (fun (x_1 : Fx × Fx) => eqL [AV.agg [AV.str (Fx.name (List.getD l (Int.toNat (↑i : Int)) Fx.nil)), AV.int .i64 (Fx.date (List.getD l (Int.toNat (↑i : Int)) Fx.nil)), AV.str (Fx.value (List.getD l (Int.toNat (↑i : Int)) Fx.nil))], AV.ptr 0 0, AV.ptr 1 0] [AV.agg [AV.str x_1.1.name, AV.int .i64 x_1.1.date, AV.str x_1.1.value], AV.ptr 0 0, AV.ptr 1 0] ∧ eqH [.box [AV.fn 57 [] []], .box [AV.str x.name, AV.int .i64 x.date, AV.str x.value]] [.box [AV.fn 57 [] []], .box [AV.str x_1.2.name, AV.int .i64 x_1.2.date, AV.str x_1.2.value]] ∧ 2 = 2 ∧ True) fun n => .all (fun (r : Bool) => r = decide (cmpF n.1 n.2 = 0)) fun n_1 => .ite n_1 (.leaf (.ret [.int .i64 i] [.box [.fn 57 [] []], .box [.str n.2.name, .int .i64 n.2.date, .str n.2.value]])) (.side (inR .i64 ((↑i : Int) + (1 : Int))) (.leaf (.back 0 [(0, .sl l.length 3 (fxG l)), (1, .fn 124 [] [.ptr 0 0, .ptr 1 0]), (7, .int .i64 l.length), (8, .int .i64 ((↑i : Int) + (1 : Int)))] [.box [.fn 57 [] []], .box [.str n.2.name, .int .i64 n.2.date, .str n.2.value]]))))) (.leaf (.ret [.int .i64 (-1 : Int)] [.box [.fn 57 [] []], .box [.str x.name, .int .i64 x.date, .str x.value]]))) (by kernel_rfl) ?_
  simp only [Tree.holds, zd, inR, lo, hi, Int.toNat_natCast]
  refine ⟨fun hlt => ?_, fun hge => ?_⟩
  ·have hlt : i < l.length := by have := of_decide_eq_true hlt; omega
   refine ⟨by omega, fun _ => ⟨(l.getD i Fx.nil, x), ⟨by simp, by simp, trivial, trivial⟩, ⟨_, rfl⟩, ?_⟩⟩
   rintro _ rfl
   refine ⟨fun h => ?_, fun h => ⟨by omega, fun _ => ?_⟩⟩
   ·exact fin _ _ (Jy hlt h hib).symm rfl
   ·rw [if_pos trivial]
    refine ⟨⟨i + 1, hlt, fun j hj => ?_⟩, by show l.length - (i + 1) < l.length - i; omega, by simp [SIdF, fxS, za], by simp [HIdF], by kernel_rfl, Nat.le_refl _⟩
    rcases Nat.lt_or_ge j i with h1 | h1
    ·exact hib j h1
    ·have : j = i := by omega
     rw [this]; exact h
  ·have hge : i = l.length := by have := of_decide_eq_false hge; omega
   subst hge
   exact fin _ _ (yA (p := fun y => decide (cmpF y x = 0)) hib).symm rfl
def Xi : Ctr := ctrP true (fun p : List Fx × Fx => [fxS p.1, p.2.av, .fn 57 [] []]) (fun p => p.1.length < 2 ^ 40) (fun p r => r = idxB (fun x => decide (cmpF x p.2 = 0)) p.1) (fun _ (r : Int) => (.int .i64 r, []))
def GI3 : Nat → Option Ctr := fun f => if f = 109 then some (UN) else none
theorem zfl : ∀ g c, GI3 g = some c → zc Tryz.prog g c := okIf zco (okNone)
theorem XD : zc Tryz.prog 97 Xi := by
 refine ze (fn := Tryz.f97) (c := Tryz.f97.body.getD .skip) rfl rfl rfl fun p hp O w0 Q hq => ?_
 obtain ⟨l, ⟨a, d, v⟩⟩ := p
 replace hq := hq _ rfl
 simp only at hq hp
 refine zb.run hmix zfl [] 400 (T := .ex (fun (x : List Fx × Fx) => eqL [AV.sl l.length 3 (fxG l), AV.fn 124 [] [AV.ptr 0 0, AV.ptr 1 0]] [AV.sl x.1.length 3 (fxG x.1), AV.fn 124 [] [AV.ptr 0 0, AV.ptr 1 0]] ∧ eqH [.box [AV.fn 57 [] []], .box [AV.str a, AV.int .i64 d, AV.str v]] [.box [AV.fn 57 [] []], .box [AV.str x.2.name, AV.int .i64 x.2.date, AV.str x.2.value]] ∧ 2 = 2 ∧ x.1.length < 1099511627776) fun n => .all (fun (r : Int) => r = idxB (fun (x : Fx) => decide (cmpF x n.2 = 0)) n.1) fun n_1 => .leaf (.ret [.int .i64 n_1] [.box [.str n.2.name, .int .i64 n.2.date, .str n.2.value], .box [.fn 57 [] []]])) (by kernel_rfl) ?_
 simp only [Tree.holds, zd]
 refine ⟨(l, ⟨a, d, v⟩), ⟨by simp [za], by simp, trivial, hp⟩, ⟨_, rfl⟩, ?_⟩
 rintro _ rfl
 exact RetR.scal hq rfl (by simp [resV])
def GI4 : Nat → Option Ctr := fun f => if f = 97 then some (Xi) else none
theorem zfn : ∀ g c, GI4 g = some c → zc Tryz.prog g c := okIf XD (okNone)
theorem zcb : zc Tryz.prog 77 KH := by
 refine ze (fn := Tryz.f77) (c := Tryz.f77.body.getD .skip) rfl rfl rfl fun p hp O w0 Q hq => ?_
 obtain ⟨⟨f, c⟩, ⟨a, d⟩⟩ := p
 replace hq := hq _ rfl
 simp only at hq hp
 refine zb.run hmix zfn [] 400 (T := .ex (fun (x : List Fx × Fx) => eqL [AV.sl f.length 3 (fxG f), AV.agg [AV.str a, AV.int .i64 d, AV.str (Array.toList #[])], AV.fn 57 [] []] [AV.sl x.1.length 3 (fxG x.1), AV.agg [AV.str x.2.name, AV.int .i64 x.2.date, AV.str x.2.value], AV.fn 57 [] []] ∧ x.1.length < 1099511627776) fun n => .all (fun (r : Int) => r = idxB (fun (x : Fx) => decide (cmpF x n.2 = 0)) n.1) fun n => .ite (decide (n < 0)) (.leaf (.ret [.str (Array.toList #[]), .bool false] [.box [.sl f.length 3 (fxG f), .sl c.length 4 (chG c)]])) (.side ((0 : Int) ≤ n ∧ n < (↑f.length : Int)) (.leaf (.ret [.str (Fx.value (List.getD f (Int.toNat n) Fx.nil)), .bool true] [.box [.sl f.length 3 (fxG f), .sl c.length 4 (chG c)]])))) (by kernel_rfl) ?_
 simp only [Tree.holds, zd]
 refine ⟨(f, ⟨a, d, []⟩), ⟨by simp [za], hp⟩, ⟨_, rfl⟩, ?_⟩
 rintro _ rfl
 obtain ⟨hlt, hr⟩ := YR f a d
 simp only at hq ⊢
 refine ⟨fun h => ?_, fun h => ?_⟩
 ·rw [hr, if_neg (by have := of_decide_eq_true h; omega)] at hq
  exact RetR.scal hq rfl (by simp [resV])
 ·have h := of_decide_eq_false h
  refine ⟨⟨by omega, hlt⟩, fun _ => ?_⟩
  rw [hr, if_pos (by omega)] at hq
  exact RetR.scal hq rfl (by simp [resV])
end Go.Proofs.Tryz
end

/- Expressions: their size. -/
section
set_option maxRecDepth 100000
open Go Go.Sx Go.Proofs Go.Nov
namespace Go.Proofs.Tryz
attribute [local simp] eqKV eqA eqA0 eqH eqB eqL eqL0
noncomputable def K59 : List Go.Sx.Item := [.code (Tryz.f59.body.getD .skip)]
noncomputable def K12 : List Go.Sx.Item := [.code (Tryz.f12.body.getD .skip)]
theorem jV {X R : Type} {P : Program} {g : Nat} {fresh : Bool} {inp : X → List AV} {pre : X → Prop} {post : X → R → Prop} {out : X → R → AV × Heap} (μ : X → Nat)
  (step : ∀ n, zc P g (ctrP fresh inp (fun x => μ x < n ∧ pre x) post out) → zc P g (ctrP fresh inp (fun x => μ x < n + 1 ∧ pre x) post out)) : zc P g (ctrP fresh inp pre post out) := by
 have all : ∀ n, zc P g (ctrP fresh inp (fun x => μ x < n ∧ pre x) post out) := by
  intro n
  induction n with
  | zero =>
   intro args hc Q hq _
   simp only [ctrP] at hq
   split at hq
   ·obtain ⟨x, ⟨_, h, _⟩, _⟩ := hq
    exact absurd h (Nat.not_lt_zero _)
   ·exact hq.elim
  | succ n ih => exact step n ih
 intro args hc Q hq hf
 match hc, hq, hf with
 | [], hq, hf =>
  obtain ⟨x, ⟨h1, h2⟩, h3⟩ := hq
  exact all (μ x + 1) args [] Q ⟨x, ⟨h1, Nat.lt_succ_self _, h2⟩, h3⟩ hf
 | _ :: _, hq, _ => exact hq.elim
def Qz (n : Nat) : Ctr := ctrP true (fun x : Ex => [x.exA]) (fun x => x.size < n ∧ x.size < 2 ^ 62) (fun x r => r = x.size) (fun _ (r : Nat) => (.int .i64 (r : Int), []))
def GSz (g n : Nat) : Nat → Option Ctr := fun f => if f = g then some (Qz n) else none
theorem QG {g n : Nat} (h : zc Tryz.prog g (Qz n)) : ∀ f c, GSz g n f = some c → zc Tryz.prog f c := by
 intro f c hf
 simp only [GSz] at hf
 split at hf
 ·rename_i hg; subst hg; cases hf; exact h
 ·cases hf
theorem wh {x : Ex} {k d : Int} {r m : List UInt8} {l : Nat} {g : Nat → Nat → AV} (hk : k = x.kind) (hr : r = x.rat) (hm : m = x.name) (hd : d = x.date) (hl : l = x.sub.length) (hg : eqG x.sub.length 5 g (Ex.exG x.sub)) : eqL [.agg [.int .u8 k, .str r, .str m, .int .i64 d, .sl l 5 g]] [x.exA] := by
 subst hk; subst hr; subst hm; subst hd; subst hl
 exact ⟨⟨⟨rfl, rfl⟩, rfl, rfl, ⟨rfl, rfl⟩, ⟨rfl, rfl, hg⟩, trivial⟩, trivial⟩
def SSz (s : List Ex) (c i : Nat) : KV := [(3, .int .i64 (c : Int)), (7, Ex.exS s), (8, .int .i64 (s.length : Int)), (9, .int .i64 (i : Int))]
theorem XW (n : Nat) (ih : zc Tryz.prog 59 (Qz n)) : zc Tryz.prog 59 (Qz (n + 1)) := by
 refine ze (fn := Tryz.f59) (c := Tryz.f59.body.getD .skip) rfl rfl rfl fun x hx O w0 Q hq => ?_
 replace hq := hq _ rfl
 obtain ⟨hxn, hxs⟩ := hx
 rw [Ex.size_eq] at hxn hxs hq
 obtain ⟨k, r, m, d, s⟩ := x
 simp only [Ex.sub] at hxn hxs hq
 refine zb.run hmix (QG ih) [3, 7, 8, 9] 400 (T := .leaf (.loop (Prod.fst (lps K59 0)) (Prod.snd (lps K59 0)) [(3, .int .i64 1), (7, .sl s.length 5 (Ex.exG s)), (8, .int .i64 s.length), (9, .int .i64 0)] [.box [.int .u8 k, .str r, .str m, .int .i64 d, .sl s.length 5 (Ex.exG s)]])) (by kernel_rfl) ?_
 simp only [Tree.holds, zd]
 have hlen := Ex.zQ s
 refine zb.loop (ι := {i : Nat // i ≤ s.length}) (fun i => SSz s (1 + Ex.zW (s.take i.1)) i.1) (fun _ => []) (fun i => s.length - i.1) ⟨0, Nat.zero_le _⟩ 0 ?_ ?_ (by kernel_rfl)
 ·exact ⟨by simp [SSz, Ex.zW, Ex.exS, za], by simp, by kernel_rfl, Nat.zero_le _⟩
 ·rintro ⟨i, hil⟩
  have hle := Ex.jL s i
  obtain ⟨c, hc⟩ : ∃ c, 1 + Ex.zW (s.take i) = c := ⟨_, rfl⟩
  simp only [hc]
  refine zb.run hmix (QG ih) [3, 7, 8, 9] 400 (T := .ite (decide ((↑i : Int) < s.length)) (.side ((0 : Int) ≤ i ∧ (↑i : Int) < s.length) (.ex (fun (x : Ex) => eqL [AV.agg [AV.int .u8 (Ex.kind (List.getD s (Int.toNat (↑i : Int)) Ex.nil)), AV.str (Ex.rat (List.getD s (Int.toNat (↑i : Int)) Ex.nil)), AV.str (Ex.name (List.getD s (Int.toNat (↑i : Int)) Ex.nil)), AV.int .i64 (Ex.date (List.getD s (Int.toNat (↑i : Int)) Ex.nil)), AV.sl (List.length (Ex.sub (List.getD s (Int.toNat (↑i : Int)) Ex.nil))) 5 (Ex.deep (List.getD s (Int.toNat (↑i : Int)) Ex.nil))]] [AV.agg [AV.int .u8 x.kind, AV.str x.rat, AV.str x.name, AV.int .i64 x.date, AV.sl x.sub.length 5 (Ex.exG x.sub)]] ∧ Ex.size x < n ∧ Ex.size x < 4611686018427387904) fun n => .all (fun (r : Nat) => r = Ex.size n) fun n => .side (inR .i64 ((↑c : Int) + n)) (.side (inR .i64 ((↑i : Int) + (1 : Int))) (.leaf (.back 0 [(3, .int .i64 ((↑c : Int) + n)), (7, .sl s.length 5 (Ex.exG s)), (8, .int .i64 s.length), (9, .int .i64 ((↑i : Int) + (1 : Int)))] [.box [.int .u8 (Ex.kind (List.getD s (Int.toNat (↑i : Int)) Ex.nil)), .str (Ex.rat (List.getD s (Int.toNat (↑i : Int)) Ex.nil)), .str (Ex.name (List.getD s (Int.toNat (↑i : Int)) Ex.nil)), .int .i64 (Ex.date (List.getD s (Int.toNat (↑i : Int)) Ex.nil)), .sl (List.length (Ex.sub (List.getD s (Int.toNat (↑i : Int)) Ex.nil))) 5 (Ex.deep (List.getD s (Int.toNat (↑i : Int)) Ex.nil))]]))))) (.leaf (.ret [.int .i64 c] []))) (by kernel_rfl) ?_
  simp only [Tree.holds, zd, inR, lo, hi, Int.toNat_natCast]
  refine ⟨fun hlt => ?_, fun hge => ?_⟩
  ·have hlt : i < s.length := by have := of_decide_eq_true hlt; omega
   have hg := Ex.z6 hlt
   have ht := Ex.xv s i hlt
   have hle2 := Ex.jL s (i + 1)
   refine ⟨by omega, fun _ => ⟨s.getD i Ex.nil, ⟨wh rfl rfl rfl rfl rfl (Ex.jf _), by omega, by omega⟩, ⟨_, rfl⟩, ?_⟩⟩
   rintro _ rfl
   refine ⟨by omega, fun _ => ⟨by omega, fun _ => ?_⟩⟩
   rw [if_pos trivial]
   refine ⟨⟨i + 1, hlt⟩, by show s.length - (i + 1) < s.length - i; omega, ?_, by simp, by kernel_rfl, Nat.zero_le _⟩
   simp [SSz, Ex.exS, za, ht]; omega
  ·have hge : i = s.length := by have := of_decide_eq_false hge; omega
   subst hge
   rw [List.take_length] at hc
   rw [hc] at hq
   exact RetR.scal hq rfl (by simp [resV])
def Xh : Ctr := ctrP true (fun x : Ex => [x.exA]) (fun x => x.size < 2 ^ 62) (fun x r => r = x.size) (fun _ (r : Nat) => (.int .i64 (r : Int), []))
theorem zc3 : zc Tryz.prog 59 Xh := jV Ex.size XW
def boxE (k : Int) (r m : List UInt8) (d : Int) (s : List Ex) : Heap := [.box [.int .u8 k, .str r, .str m, .int .i64 d, Ex.exS s]]
def SSr (c i : Nat) : KV := [(1, .ptr 0 0), (3, .int .i64 (c : Int)), (4, .int .i64 (i : Int))]
theorem WX (n : Nat) (ih : zc Tryz.prog 12 (Qz n)) : zc Tryz.prog 12 (Qz (n + 1)) := by
 refine ze (fn := Tryz.f12) (c := Tryz.f12.body.getD .skip) rfl rfl rfl fun x hx O w0 Q hq => ?_
 replace hq := hq _ rfl
 obtain ⟨hxn, hxs⟩ := hx
 rw [Ex.size_eq] at hxn hxs hq
 obtain ⟨k, r, m, d, s⟩ := x
 simp only [Ex.sub] at hxn hxs hq
 refine zb.run hmix (QG ih) [1, 3, 4] 400 (T := .leaf (.loop (Prod.fst (lps K12 0)) (Prod.snd (lps K12 0)) [(1, .ptr 0 0), (3, .int .i64 1), (4, .int .i64 0)] [.box [.int .u8 k, .str r, .str m, .int .i64 d, .sl s.length 5 (Ex.exG s)]])) (by kernel_rfl) ?_
 simp only [Tree.holds, zd]
 have hlen := Ex.zQ s
 refine zb.loop (ι := {i : Nat // i ≤ s.length}) (fun i => SSr (1 + Ex.zW (s.take i.1)) i.1) (fun _ => boxE k r m d s) (fun i => s.length - i.1) ⟨0, Nat.zero_le _⟩ 0 ?_ ?_ (by kernel_rfl)
 ·exact ⟨by simp [SSr, Ex.zW], by simp [boxE, Ex.exS, za], by kernel_rfl, Nat.zero_le _⟩
 ·rintro ⟨i, hil⟩
  have hle := Ex.jL s i
  obtain ⟨c, hc⟩ : ∃ c, 1 + Ex.zW (s.take i) = c := ⟨_, rfl⟩
  simp only [hc]
  refine zb.run hmix (QG ih) [1, 3, 4] 400 (T := .ite (decide ((↑i : Int) < s.length)) (.side ((0 : Int) ≤ i ∧ (↑i : Int) < s.length) (.ex (fun (x : Ex) => eqL [AV.agg [AV.int .u8 (Ex.kind (List.getD s (Int.toNat (↑i : Int)) Ex.nil)), AV.str (Ex.rat (List.getD s (Int.toNat (↑i : Int)) Ex.nil)), AV.str (Ex.name (List.getD s (Int.toNat (↑i : Int)) Ex.nil)), AV.int .i64 (Ex.date (List.getD s (Int.toNat (↑i : Int)) Ex.nil)), AV.sl (List.length (Ex.sub (List.getD s (Int.toNat (↑i : Int)) Ex.nil))) 5 (Ex.deep (List.getD s (Int.toNat (↑i : Int)) Ex.nil))]] [AV.agg [AV.int .u8 x.kind, AV.str x.rat, AV.str x.name, AV.int .i64 x.date, AV.sl x.sub.length 5 (Ex.exG x.sub)]] ∧ Ex.size x < n ∧ Ex.size x < 4611686018427387904) fun n => .all (fun (r : Nat) => r = Ex.size n) fun n => .side (inR .i64 ((↑c : Int) + n)) (.side (inR .i64 ((↑i : Int) + (1 : Int))) (.leaf (.back 0 [(1, .ptr 0 0), (3, .int .i64 ((↑c : Int) + n)), (4, .int .i64 ((↑i : Int) + (1 : Int)))] [.box [.int .u8 k, .str r, .str m, .int .i64 d, .sl s.length 5 (Ex.exG s)]]))))) (.leaf (.ret [.int .i64 c] [.box [.int .u8 k, .str r, .str m, .int .i64 d, .sl s.length 5 (Ex.exG s)]]))) (by kernel_rfl) ?_
  simp only [Tree.holds, zd, inR, lo, hi, Int.toNat_natCast]
  refine ⟨fun hlt => ?_, fun hge => ?_⟩
  ·have hlt : i < s.length := by have := of_decide_eq_true hlt; omega
   have hg := Ex.z6 hlt
   have ht := Ex.xv s i hlt
   have hle2 := Ex.jL s (i + 1)
   refine ⟨by omega, fun _ => ⟨s.getD i Ex.nil, ⟨wh rfl rfl rfl rfl rfl (Ex.jf _), by omega, by omega⟩, ⟨_, rfl⟩, ?_⟩⟩
   rintro _ rfl
   refine ⟨by omega, fun _ => ⟨by omega, fun _ => ?_⟩⟩
   rw [if_pos trivial]
   refine ⟨⟨i + 1, hlt⟩, by show s.length - (i + 1) < s.length - i; omega, ?_, by simp [boxE, Ex.exS, za], by kernel_rfl, Nat.zero_le _⟩
   simp [SSr, ht]; omega
  ·have hge : i = s.length := by have := of_decide_eq_false hge; omega
   subst hge
   rw [List.take_length] at hc
   rw [hc] at hq
   exact RetR.scal hq rfl (by simp [resV])
theorem YY : zc Tryz.prog 12 Xh := jV Ex.size WX
end Go.Proofs.Tryz
end

/- Expressions: depth, strings, sorts. -/
section
namespace Go.Nov
open Go.Sx
def zZ (k : Int) (r n : List UInt8) (d : Int) (l : Nat) : Bool :=
 decide (l = 0) && (if k = 1 then decide (errR r = 0) && decide (n = []) && decide (d = 0) else if k = 2 then decide (r = []) && qe n && dayB d else if k = 3 then decide (r = []) && qe n && decide (d = 0) else false)
def jm (k : Int) (r n : List UInt8) (d : Int) (ss : List Int) : Int :=
 if qP k = true then (if r = [] ∧ n = [] ∧ d = 0 ∧ ss = qN k then qK k else 0) else if zZ k r n d ss.length = true then 1 else 0
def intG (l : List Int) : Nat → Nat → AV := fun j _ => .int .i64 (l.getD j 0)
def xb (r m : List UInt8) (d : Int) : Bool := bif (bif decide (r = []) then decide (m = []) else false) then decide (d = 0) else false
theorem jB {k : Int} {r m : List UInt8} {d : Int} {l ps : List Int} {w : Int} (h : yf k = some (ps, w)) : jm k r m d l = if xb r m d = true ∧ l = ps then w else 0 := by
 have h1 : qP k = true := by simp [qP, h]
 have h2 : qN k = ps := by simp [qN, h]
 have h3 : qK k = w := by simp [qK, h]
 unfold jm
 rw [if_pos h1, h2, h3]
 simp [xb, and_assoc]
theorem jD {k : Int} {r m : List UInt8} {d : Int} {l : List Int} (h : qP k = false) : jm k r m d l = if zZ k r m d l.length = true then 1 else 0 := by
 unfold jm
 rw [if_neg (by rw [h]; decide)]
theorem Vx {k : Int} (h : ¬ (4 ≤ k ∧ k ≤ 9)) (h2 : ¬ (11 ≤ k ∧ k ≤ 15)) : qP k = false := by
 have e : ∀ c : Int, (4 ≤ c ∧ c ≤ 9) ∨ (11 ≤ c ∧ c ≤ 15) → (c == k) = false := fun c hc => by
  rw [beq_eq_false_iff_ne]; omega
 simp only [qP, yf, shpL, List.find?_cons, e 4 (by omega), e 5 (by omega), e 6 (by omega), e 7 (by omega), e 8 (by omega), e 9 (by omega), e 11 (by omega), e 12 (by omega), e 13 (by omega), e 14 (by omega), e 15 (by omega), List.find?_nil]
 rfl
theorem zgi {l : List Int} {a : Int} : l = [a] ↔ (l.length : Int) = 1 ∧ l[0]?.getD 0 = a := by
 match l with
 | [] => simp
 | [x] => simp
 | _ :: _ :: l => simp; omega
theorem zgl {l : List Int} {a b : Int} : l = [a, b] ↔ (l.length : Int) = 2 ∧ l[0]?.getD 0 = a ∧ l[1]?.getD 0 = b := by
 match l with
 | [] => simp
 | [x] => simp
 | [x, y] => simp
 | _ :: _ :: _ :: l => simp; omega
theorem zgh {l : List Int} {a b c : Int} : l = [a, b, c] ↔ (l.length : Int) = 3 ∧ l[0]?.getD 0 = a ∧ l[1]?.getD 0 = b ∧ l[2]?.getD 0 = c := by
 match l with
 | [] => simp
 | [x] => simp
 | [x, y] => simp
 | [x, y, z] => simp
 | _ :: _ :: _ :: _ :: l => simp; omega
namespace Ex
mutual
def depth : Ex → Nat
 | mk _ _ _ _ s => 1 + jb s
def jb : List Ex → Nat
 | [] => 0
 | x :: l => max (depth x) (jb l)
end
mutual
def zx : Ex → Nat
 | mk _ r n _ s => r.length + n.length + qf s
def qf : List Ex → Nat
 | [] => 0
 | x :: l => zx x + qf l
end
mutual
def z9 : Ex → Int
 | mk k r n d s => jm k r n d (q7 s)
def q7 : List Ex → List Int
 | [] => []
 | x :: l => z9 x :: q7 l
end
mutual
def thin : Ex → Prop
 | mk _ r n _ s => r.length ≤ 2 ^ 48 ∧ n.length ≤ 2 ^ 48 ∧ Zt s
def Zt : List Ex → Prop
 | [] => True
 | x :: l => thin x ∧ Zt l
end
theorem xL (x : Ex) : x.depth = 1 + jb x.sub := by cases x; rw [depth]; rfl
theorem y8 (x : Ex) : x.zx = x.rat.length + x.name.length + qf x.sub := by cases x; rw [zx]; rfl
theorem yi (x : Ex) : x.z9 = jm x.kind x.rat x.name x.date (q7 x.sub) := by cases x; rw [z9]; rfl
theorem ud (s : List Ex) (i : Nat) (h : i < s.length) : jb (s.take (i + 1)) = max (jb (s.take i)) (s.getD i nil).depth := by
 induction s generalizing i with
 | nil => simp at h
 | cons x s ih =>
  cases i with
  | zero => simp [jb]
  | succ i =>
   simp only [List.take_succ_cons, jb, List.getD_cons_succ]
   rw [ih i (by simpa using h)]
   omega
theorem Wd (s : List Ex) (i : Nat) (h : i < s.length) : qf (s.take (i + 1)) = qf (s.take i) + (s.getD i nil).zx := by
 induction s generalizing i with
 | nil => simp at h
 | cons x s ih =>
  cases i with
  | zero => simp [qf]
  | succ i =>
   simp only [List.take_succ_cons, qf, List.getD_cons_succ]
   rw [ih i (by simpa using h)]
   omega
theorem xz {s : List Ex} {i : Nat} (h : i < s.length) : (s.getD i nil).zx ≤ qf s := by
 induction s generalizing i with
 | nil => simp at h
 | cons x s ih =>
  cases i with
  | zero => simp [qf]
  | succ i =>
   simp only [List.getD_cons_succ, qf]
   have := ih (i := i) (by simpa using h)
   omega
theorem kC (s : List Ex) (i : Nat) : qf (s.take i) ≤ qf s := by
 induction s generalizing i with
 | nil => simp [qf]
 | cons x s ih =>
  cases i with
  | zero => simp [qf]
  | succ i => simp only [List.take_succ_cons, qf]; have := ih i; omega
theorem qU (s : List Ex) : (q7 s).length = s.length := by
 induction s with
 | nil => simp [q7]
 | cons x s ih => simp [q7, ih]
theorem Qu {s : List Ex} {i : Nat} (h : i < s.length) : (q7 s).getD i 0 = (s.getD i nil).z9 := by
 induction s generalizing i with
 | nil => simp at h
 | cons x s ih =>
  cases i with
  | zero => simp [q7]
  | succ i => simpa [q7] using ih (i := i) (by simpa using h)
theorem yk {s : List Ex} {ps : List Int} : q7 s = ps ↔ s.length = ps.length ∧ ∀ i, i < s.length → (s.getD i nil).z9 = ps.getD i 0 := by
 constructor
 ·rintro rfl
  exact ⟨(qU s).symm, fun i hi => (Qu hi).symm⟩
 ·rintro ⟨h1, h2⟩
  apply List.ext_getElem
  ·rw [qU, h1]
  ·intro i g1 g2
   have g3 : i < s.length := by rwa [qU] at g1
   have := h2 i g3
   rw [← Qu g3] at this
   simpa [List.getD, g1, g2] using this
mutual
theorem Qs : ∀ x : Ex, thin x → zx x ≤ size x * 2 ^ 49
 | mk k r n d s, h => by
  rw [thin] at h
  have := Q2 s h.2.2
  rw [zx, size, Nat.add_mul]
  omega
theorem Q2 : ∀ l : List Ex, Zt l → qf l ≤ zW l * 2 ^ 49
 | [], _ => by simp [qf]
 | x :: l, h => by
  rw [Zt] at h
  have h1 := Qs x h.1
  have h2 := Q2 l h.2
  rw [qf, zW, Nat.add_mul]
  omega
end
def errX (x : Ex) : Int := if 500 < x.size ∨ 60 < x.depth then 4 else if x.z9 = 0 then 8 else 0
theorem Xu (x : Ex) : 0 < x.depth := by rw [xL]; omega
theorem kZ : ∀ x : Ex, x.depth ≤ x.size := by
 intro x
 have key : ∀ (n : Nat) (x : Ex), x.size ≤ n → x.depth ≤ x.size := by
  intro n
  induction n with
  | zero => intro x h; have := size_pos x; omega
  | succ n ih =>
   intro x h
   rw [size_eq] at h ⊢
   rw [xL]
   have : ∀ l : List Ex, zW l ≤ n → jb l ≤ zW l := by
    intro l
    induction l with
    | nil => simp [jb]
    | cons y l il =>
     intro hl
     simp only [zW, jb] at hl ⊢
     have := ih y (by omega)
     have := il (by omega)
     omega
   have := this x.sub (by omega)
   omega
 exact key _ x (Nat.le_refl _)
theorem Vi (s : List Ex) (i : Nat) (h : i < s.length) : q7 (s.take (i + 1)) = q7 (s.take i) ++ [(s.getD i nil).z9] := by
 induction s generalizing i with
 | nil => simp at h
 | cons x s ih =>
  cases i with
  | zero => simp [q7]
  | succ i =>
   simp only [List.take_succ_cons, q7, List.getD_cons_succ, List.cons_append]
   rw [ih i (by simpa using h)]
end Ex
end Go.Nov
end

/- Expressions: the reference's bounds. -/
section
set_option maxRecDepth 100000
open Go Go.Sx Go.Proofs Go.Nov
namespace Go.Proofs.Tryz
attribute [local simp] eqKV eqA eqA0 eqH eqB eqL eqL0
noncomputable def K20 : List Go.Sx.Item := [.code (Tryz.f20.body.getD .skip)]
noncomputable def K21 : List Go.Sx.Item := [.code (Tryz.f21.body.getD .skip)]
def G1c (g : Nat) (C : Ctr) : Nat → Option Ctr := fun f => if f = g then some C else none
theorem k6 {g : Nat} {C : Ctr} (h : zc Tryz.prog g C) : ∀ f c, G1c g C f = some c → zc Tryz.prog f c := by
 intro f c hf
 simp only [G1c] at hf
 split at hf
 ·rename_i hg; subst hg; cases hf; exact h
 ·cases hf
def Uc (n : Nat) : Ctr := ctrP true (fun p : Ex × Nat × Nat => [p.1.exA, .int .i64 (p.2.1 : Int), .int .i64 (p.2.2 : Int)]) (fun p => p.1.size < n ∧ p.2.1 < 2 ^ 40 ∧ p.2.2 < 2 ^ 40)
 (fun p (r : Nat × Bool) => 1 ≤ r.1 ∧ r.1 ≤ p.2.1 + 1 ∧ (r.2 = true → r.1 ≤ p.2.1 → r.1 = p.1.size)) (fun _ (r : Nat × Bool) => (.tup [.int .i64 (r.1 : Int), .bool r.2], []))
def SCn (limit deep m i : Nat) : KV := [(1, .int .i64 (limit : Int)), (2, .int .i64 (deep : Int)), (3, .ptr 0 0), (8, .int .i64 (m : Int)), (9, .int .i64 (i : Int)), (20, .undef), (21, .undef), (22, .undef)]
theorem V2 (n : Nat) (ih : zc Tryz.prog 20 (Uc n)) : zc Tryz.prog 20 (Uc (n + 1)) := by
 refine ze (fn := Tryz.f20) (c := Tryz.f20.body.getD .skip) rfl rfl rfl fun p hp O w0 Q hq => ?_
 obtain ⟨x, limit, deep⟩ := p
 obtain ⟨hxn, hli, hde⟩ := hp
 simp only at hxn hli hde hq
 rw [Ex.size_eq] at hxn hq
 obtain ⟨k, r, m, d, s⟩ := x
 simp only [Ex.sub] at hxn hq
 refine zb.run hmix (k6 ih) [1, 2, 3, 8, 9, 20, 21, 22] 400 (T := .ite (decide ((↑deep : Int) = 0)) (.leaf (.ret [.int .i64 1, .bool false] [.box [.int .u8 k, .str r, .str m, .int .i64 d, .sl s.length 5 (Ex.exG s)]])) (.leaf (.loop (Prod.fst (lps K20 0)) (Prod.snd (lps K20 0)) [(1, .int .i64 limit), (2, .int .i64 deep), (3, .ptr 0 0), (8, .int .i64 1), (9, .int .i64 0), (20, .undef), (21, .undef), (22, .undef)] [.box [.int .u8 k, .str r, .str m, .int .i64 d, .sl s.length 5 (Ex.exG s)]]))) (by kernel_rfl) ?_
 simp only [Tree.holds, zd]
 refine ⟨fun h0 => ?_, fun h0 => ?_⟩
 ·exact RetR.scal (hq (1, false) ⟨Nat.le_refl _, by simp, fun h => by cases h⟩) rfl (by simp [resV])
 ·have h0 : 0 < deep := by have := of_decide_eq_false h0; omega
  refine zb.loop (ι := {q : Nat × Nat // q.1 ≤ limit + 1 ∧ q.2 < q.1 ∧ q.2 ≤ s.length ∧ (q.1 ≤ limit → q.1 = 1 + Ex.zW (s.take q.2))}) (fun q => SCn limit deep q.1.1 q.1.2) (fun _ => boxE k r m d s) (fun q => s.length - q.1.2) ⟨(1, 0), by simp [Ex.zW]⟩ 0 ?_ ?_ (by kernel_rfl)
  ·exact ⟨by simp [SCn], by simp [boxE, Ex.exS, za], by kernel_rfl, Nat.zero_le _⟩
  ·rintro ⟨⟨c, i⟩, h1, h2, h3, h4⟩
   simp only at h1 h2 h3 h4
   refine zb.run hmix (k6 ih) [1, 2, 3, 8, 9, 20, 21, 22] 400 (T := .ite (bif decide ((↑i : Int) < s.length) then decide ((↑c : Int) ≤ limit) else false) (.side ((0 : Int) ≤ i ∧ (↑i : Int) < s.length) (.side (inR .i64 ((↑limit : Int) - c)) (.side (inR .i64 ((↑deep : Int) - (1 : Int))) (.ex (fun (x : Ex × Nat × Nat) => eqL [AV.agg [AV.int .u8 (Ex.kind (List.getD s (Int.toNat (↑i : Int)) Ex.nil)), AV.str (Ex.rat (List.getD s (Int.toNat (↑i : Int)) Ex.nil)), AV.str (Ex.name (List.getD s (Int.toNat (↑i : Int)) Ex.nil)), AV.int .i64 (Ex.date (List.getD s (Int.toNat (↑i : Int)) Ex.nil)), AV.sl (List.length (Ex.sub (List.getD s (Int.toNat (↑i : Int)) Ex.nil))) 5 (Ex.deep (List.getD s (Int.toNat (↑i : Int)) Ex.nil))], AV.int .i64 ((↑limit : Int) - c), AV.int .i64 ((↑deep : Int) - (1 : Int))] [AV.agg [AV.int .u8 x.1.kind, AV.str x.1.rat, AV.str x.1.name, AV.int .i64 x.1.date, AV.sl x.1.sub.length 5 (Ex.exG x.1.sub)], AV.int .i64 (↑(x.2.1) : Int), AV.int .i64 (↑(x.2.2) : Int)] ∧ Ex.size x.1 < n ∧ x.2.1 < 1099511627776 ∧ x.2.2 < 1099511627776) fun n => .all (fun (r : Nat × Bool) => 1 ≤ r.1 ∧ r.1 ≤ n.2.1 + 1 ∧ (r.2 = true → r.1 ≤ n.2.1 → r.1 = Ex.size n.1)) fun n => .ite (!Prod.snd n) (.leaf (.ret [.int .i64 c, .bool false] [.box [.int .u8 k, .str r, .str m, .int .i64 d, .sl s.length 5 (Ex.exG s)]])) (.side (inR .i64 ((↑c : Int) + n.1)) (.side (inR .i64 ((↑i : Int) + (1 : Int))) (.leaf (.back 0 [(1, .int .i64 limit), (2, .int .i64 deep), (3, .ptr 0 0), (8, .int .i64 ((↑c : Int) + n.1)), (9, .int .i64 ((↑i : Int) + (1 : Int))), (20, .undef), (21, .undef), (22, .undef)] [.box [.int .u8 k, .str r, .str m, .int .i64 d, .sl s.length 5 (Ex.exG s)]])))))))) (.leaf (.ret [.int .i64 c, .bool true] [.box [.int .u8 k, .str r, .str m, .int .i64 d, .sl s.length 5 (Ex.exG s)]]))) (by kernel_rfl) ?_
   simp only [Tree.holds, zd, inR, lo, hi, Int.toNat_natCast]
   refine ⟨fun hlt => ?_, fun hge => ?_⟩
   ·have hlt1 : i < s.length ∧ c ≤ limit := by
     by_cases g1 : i < s.length
     ·by_cases g2 : c ≤ limit
      ·exact ⟨g1, g2⟩
      ·rw [decide_eq_false (show ¬ (c : Int) ≤ limit by omega)] at hlt
       cases hx : decide ((i : Int) < s.length) <;> rw [hx] at hlt <;> cases hlt
     ·rw [decide_eq_false (show ¬ (i : Int) < s.length by omega)] at hlt
      cases hlt
    obtain ⟨hlt, hcl⟩ := hlt1
    have hg := Ex.z6 hlt
    have ht := Ex.xv s i hlt
    have h4 := h4 hcl
    iterate 3 refine ⟨by omega, fun _ => ?_⟩
    refine ⟨(s.getD i Ex.nil, limit - c, deep - 1), ⟨?_, by show (s.getD i Ex.nil).size < n; omega, by show limit - c < 2 ^ 40; omega, by show deep - 1 < 2 ^ 40; omega⟩, ⟨(1, false), Nat.le_refl _, by simp, fun h => by cases h⟩, ?_⟩
    ·have e1 : (limit : Int) - c = ((limit - c : Nat) : Int) := by omega
     have e2 : (deep : Int) - 1 = ((deep - 1 : Nat) : Int) := by omega
     rw [e1, e2]
     exact ⟨⟨⟨rfl, rfl⟩, rfl, rfl, ⟨rfl, rfl⟩, ⟨rfl, rfl, Ex.jf _⟩, trivial⟩, ⟨rfl, rfl⟩, ⟨rfl, rfl⟩, trivial⟩
    rintro ⟨m', b⟩ ⟨g1, g2, g3⟩
    simp only at g1 g2 g3
    refine ⟨fun hb => ?_, fun hb => ?_⟩
    ·exact RetR.scal (hq (c, false) ⟨by show 1 ≤ c; omega, by show c ≤ limit + 1; omega, fun h => by cases h⟩) rfl (by simp [resV])
    ·have hb : b = true := by simpa using hb
     refine ⟨by omega, fun _ => ⟨by omega, fun _ => ?_⟩⟩
     rw [if_pos trivial]
     refine ⟨⟨(c + m', i + 1), ?_, ?_, hlt, ?_⟩, by show s.length - (i + 1) < s.length - i; omega, ?_, by simp [boxE, Ex.exS, za], by kernel_rfl, Nat.zero_le _⟩
     ·show c + m' ≤ limit + 1; omega
     ·show i + 1 < c + m'; omega
     ·show c + m' ≤ limit → c + m' = 1 + Ex.zW (s.take (i + 1))
      intro hle
      have := g3 hb (by omega)
      omega
     ·simp [SCn]
   ·refine RetR.scal (hq (c, true) ⟨by show 1 ≤ c; omega, h1, fun _ hle => ?_⟩) rfl (by simp [resV])
    simp only at hle
    have hge : i = s.length := by
     by_cases g1 : i < s.length
     ·rw [decide_eq_true (show (i : Int) < s.length by omega), decide_eq_true (show (c : Int) ≤ limit by omega)] at hge
      cases hge
     ·omega
    have h4 := h4 hle
    rw [hge, List.take_length] at h4
    exact h4
theorem Yy : zc Tryz.prog 20 (ctrP true (fun p : Ex × Nat × Nat => [p.1.exA, .int .i64 (p.2.1 : Int), .int .i64 (p.2.2 : Int)]) (fun p => p.2.1 < 2 ^ 40 ∧ p.2.2 < 2 ^ 40)
 (fun p (r : Nat × Bool) => 1 ≤ r.1 ∧ r.1 ≤ p.2.1 + 1 ∧ (r.2 = true → r.1 ≤ p.2.1 → r.1 = p.1.size)) (fun _ (r : Nat × Bool) => (.tup [.int .i64 (r.1 : Int), .bool r.2], []))) := jV (fun p => p.1.size) V2
def YC (n : Nat) : Ctr := ctrP true (fun x : Ex => [x.exA]) (fun x => x.size < n ∧ x.size < 2 ^ 60 ∧ x.zx < 2 ^ 60) (fun x r => r = x.zx) (fun _ (r : Nat) => (.int .i64 (r : Int), []))
def SBy (c i : Nat) : KV := [(1, .ptr 0 0), (3, .int .i64 (c : Int)), (4, .int .i64 (i : Int))]
theorem V7 (n : Nat) (ih : zc Tryz.prog 21 (YC n)) : zc Tryz.prog 21 (YC (n + 1)) := by
 refine ze (fn := Tryz.f21) (c := Tryz.f21.body.getD .skip) rfl rfl rfl fun x hx O w0 Q hq => ?_
 replace hq := hq _ rfl
 obtain ⟨hxn, hxs, hxb⟩ := hx
 rw [Ex.y8] at hq hxb
 rw [Ex.size_eq] at hxn hxs
 obtain ⟨k, r, m, d, s⟩ := x
 simp only [Ex.sub, Ex.rat, Ex.name] at hxn hxs hq hxb
 refine zb.run hmix (k6 ih) [1, 3, 4] 400 (T := .side (inR .i64 ((↑r.length : Int) + m.length)) (.leaf (.loop (Prod.fst (lps K21 0)) (Prod.snd (lps K21 0)) [(1, .ptr 0 0), (3, .int .i64 ((↑r.length : Int) + m.length)), (4, .int .i64 0)] [.box [.int .u8 k, .str r, .str m, .int .i64 d, .sl s.length 5 (Ex.exG s)]]))) (by kernel_rfl) ?_
 simp only [Tree.holds, zd, inR, lo, hi, Int.toNat_natCast]
 have hlen := Ex.zQ s
 refine ⟨by omega, fun _ => ?_⟩
 refine zb.loop (ι := {i : Nat // i ≤ s.length}) (fun i => SBy (r.length + m.length + Ex.qf (s.take i.1)) i.1) (fun _ => boxE k r m d s) (fun i => s.length - i.1) ⟨0, Nat.zero_le _⟩ 0 ?_ ?_ (by kernel_rfl)
 ·exact ⟨by simp [SBy, Ex.qf], by simp [boxE, Ex.exS, za], by kernel_rfl, Nat.zero_le _⟩
 ·rintro ⟨i, hil⟩
  have hle := Ex.kC s i
  obtain ⟨c, hc⟩ : ∃ c, r.length + m.length + Ex.qf (s.take i) = c := ⟨_, rfl⟩
  simp only [hc]
  refine zb.run hmix (k6 ih) [1, 3, 4] 400 (T := .ite (decide ((↑i : Int) < s.length)) (.side ((0 : Int) ≤ i ∧ (↑i : Int) < s.length) (.ex (fun (x : Ex) => eqL [AV.agg [AV.int .u8 (Ex.kind (List.getD s (Int.toNat (↑i : Int)) Ex.nil)), AV.str (Ex.rat (List.getD s (Int.toNat (↑i : Int)) Ex.nil)), AV.str (Ex.name (List.getD s (Int.toNat (↑i : Int)) Ex.nil)), AV.int .i64 (Ex.date (List.getD s (Int.toNat (↑i : Int)) Ex.nil)), AV.sl (List.length (Ex.sub (List.getD s (Int.toNat (↑i : Int)) Ex.nil))) 5 (Ex.deep (List.getD s (Int.toNat (↑i : Int)) Ex.nil))]] [AV.agg [AV.int .u8 x.kind, AV.str x.rat, AV.str x.name, AV.int .i64 x.date, AV.sl x.sub.length 5 (Ex.exG x.sub)]] ∧ Ex.size x < n ∧ Ex.size x < 1152921504606846976 ∧ Ex.zx x < 1152921504606846976) fun n => .all (fun (r : Nat) => r = Ex.zx n) fun n => .side (inR .i64 ((↑c : Int) + n)) (.side (inR .i64 ((↑i : Int) + (1 : Int))) (.leaf (.back 0 [(1, .ptr 0 0), (3, .int .i64 ((↑c : Int) + n)), (4, .int .i64 ((↑i : Int) + (1 : Int)))] [.box [.int .u8 k, .str r, .str m, .int .i64 d, .sl s.length 5 (Ex.exG s)]]))))) (.leaf (.ret [.int .i64 c] [.box [.int .u8 k, .str r, .str m, .int .i64 d, .sl s.length 5 (Ex.exG s)]]))) (by kernel_rfl) ?_
  simp only [Tree.holds, zd, inR, lo, hi, Int.toNat_natCast]
  refine ⟨fun hlt => ?_, fun hge => ?_⟩
  ·have hlt : i < s.length := by have := of_decide_eq_true hlt; omega
   have hg := Ex.z6 hlt
   have hg2 := Ex.xz hlt
   have ht := Ex.Wd s i hlt
   have hle2 := Ex.kC s (i + 1)
   refine ⟨by omega, fun _ => ⟨s.getD i Ex.nil, ⟨wh rfl rfl rfl rfl rfl (Ex.jf _), by omega, by omega, by omega⟩, ⟨_, rfl⟩, ?_⟩⟩
   rintro _ rfl
   refine ⟨by omega, fun _ => ⟨by omega, fun _ => ?_⟩⟩
   rw [if_pos trivial]
   refine ⟨⟨i + 1, hlt⟩, by show s.length - (i + 1) < s.length - i; omega, ?_, by simp [boxE, Ex.exS, za], by kernel_rfl, Nat.zero_le _⟩
   simp [SBy, ht]; omega
  ·have hge : i = s.length := by have := of_decide_eq_false hge; omega
   subst hge
   rw [List.take_length] at hc
   rw [hc] at hq
   exact RetR.scal hq rfl (by simp [resV])
theorem UB : zc Tryz.prog 21 (ctrP true (fun x : Ex => [x.exA]) (fun x => x.size < 2 ^ 60 ∧ x.zx < 2 ^ 60) (fun x r => r = x.zx) (fun _ (r : Nat) => (.int .i64 (r : Int), []))) := jV Ex.size V7
end Go.Proofs.Tryz
end

/- Expressions: the depth. -/
section
set_option maxRecDepth 100000
open Go Go.Sx Go.Proofs Go.Nov
namespace Go.Proofs.Tryz
attribute [local simp] eqKV eqA eqA0 eqH eqB eqL eqL0
noncomputable def K60 : List Go.Sx.Item := [.code (Tryz.f60.body.getD .skip)]
noncomputable def K13 : List Go.Sx.Item := [.code (Tryz.f13.body.getD .skip)]
def UH (n : Nat) : Ctr := ctrP true (fun p : Ex × Nat => [p.1.exA, .int .i64 (p.2 : Int)]) (fun p => p.1.size < n ∧ p.1.size < 2 ^ 62 ∧ p.2 < 2 ^ 40) (fun p r => r = min p.1.depth (p.2 + 1)) (fun _ (r : Nat) => (.int .i64 (r : Int), []))
def SDp (s : List Ex) (limit c i : Nat) : KV := [(1, .int .i64 (limit : Int)), (5, .int .i64 (c : Int)), (11, Ex.exS s), (12, .int .i64 (s.length : Int)), (13, .int .i64 (i : Int))]
theorem Vb (n : Nat) (ih : zc Tryz.prog 60 (UH n)) : zc Tryz.prog 60 (UH (n + 1)) := by
 refine ze (fn := Tryz.f60) (c := Tryz.f60.body.getD .skip) rfl rfl rfl fun p hp O w0 Q hq => ?_
 obtain ⟨x, limit⟩ := p
 obtain ⟨hxn, hxs, hli⟩ := hp
 replace hq := hq _ rfl
 simp only at hxn hxs hli hq
 have hds := Ex.kZ x
 have hdp := Ex.Xu x
 rw [Ex.xL] at hq hds hdp
 rw [Ex.size_eq] at hxn hxs hds
 obtain ⟨k, r, m, d, s⟩ := x
 simp only [Ex.sub] at hxn hxs hq hds hdp
 have hlen := Ex.zQ s
 refine zb.run hmix (k6 ih) [1, 5, 11, 12, 13] 400 (T := .ite (decide ((0 : Int) < limit)) (.leaf (.loop (Prod.fst (lps K60 0)) (Prod.snd (lps K60 0)) [(1, .int .i64 limit), (5, .int .i64 0), (11, .sl s.length 5 (Ex.exG s)), (12, .int .i64 s.length), (13, .int .i64 0)] [.box [.int .u8 k, .str r, .str m, .int .i64 d, .sl s.length 5 (Ex.exG s)]])) (.side (inR .i64 (1 : Int)) (.leaf (.ret [.int .i64 1] [.box [.int .u8 k, .str r, .str m, .int .i64 d, .sl s.length 5 (Ex.exG s)]])))) (by kernel_rfl) ?_
 simp only [Tree.holds, zd, inR, lo, hi, Int.toNat_natCast]
 refine ⟨fun hl => ?_, fun hl => ?_⟩
 ·have hl : 0 < limit := by have := of_decide_eq_true hl; omega
  refine zb.loop (ι := {i : Nat // i ≤ s.length}) (fun i => SDp s limit (min (Ex.jb (s.take i.1)) limit) i.1) (fun _ => []) (fun i => s.length - i.1) ⟨0, Nat.zero_le _⟩ 0 ?_ ?_ (by kernel_rfl)
  ·exact ⟨by simp [SDp, Ex.jb, Ex.exS, za], by simp, by kernel_rfl, Nat.zero_le _⟩
  ·rintro ⟨i, hil⟩
   obtain ⟨c, hc⟩ : ∃ c, min (Ex.jb (s.take i)) limit = c := ⟨_, rfl⟩
   simp only [hc]
   refine zb.run hmix (k6 ih) [1, 5, 11, 12, 13] 400 (T := .ite (decide ((↑i : Int) < s.length)) (.side ((0 : Int) ≤ i ∧ (↑i : Int) < s.length) (.side (inR .i64 ((↑limit : Int) - (1 : Int))) (.ex (fun (x : Ex × Nat) => eqL [AV.agg [AV.int .u8 (Ex.kind (List.getD s (Int.toNat (↑i : Int)) Ex.nil)), AV.str (Ex.rat (List.getD s (Int.toNat (↑i : Int)) Ex.nil)), AV.str (Ex.name (List.getD s (Int.toNat (↑i : Int)) Ex.nil)), AV.int .i64 (Ex.date (List.getD s (Int.toNat (↑i : Int)) Ex.nil)), AV.sl (List.length (Ex.sub (List.getD s (Int.toNat (↑i : Int)) Ex.nil))) 5 (Ex.deep (List.getD s (Int.toNat (↑i : Int)) Ex.nil))], AV.int .i64 ((↑limit : Int) - (1 : Int))] [AV.agg [AV.int .u8 x.1.kind, AV.str x.1.rat, AV.str x.1.name, AV.int .i64 x.1.date, AV.sl x.1.sub.length 5 (Ex.exG x.1.sub)], AV.int .i64 x.2] ∧ Ex.size x.1 < n ∧ Ex.size x.1 < 4611686018427387904 ∧ x.2 < 1099511627776) fun n => .all (fun (r : Nat) => r = min n.1.depth (n.2 + 1)) fun n => .side (inR .i64 ((↑i : Int) + (1 : Int))) (.leaf (.back 0 [(1, .int .i64 limit), (5, .int .i64 (max (↑c : Int) (↑n : Int))), (11, .sl s.length 5 (Ex.exG s)), (12, .int .i64 s.length), (13, .int .i64 ((↑i : Int) + (1 : Int)))] [.box [.int .u8 (Ex.kind (List.getD s (Int.toNat (↑i : Int)) Ex.nil)), .str (Ex.rat (List.getD s (Int.toNat (↑i : Int)) Ex.nil)), .str (Ex.name (List.getD s (Int.toNat (↑i : Int)) Ex.nil)), .int .i64 (Ex.date (List.getD s (Int.toNat (↑i : Int)) Ex.nil)), .sl (List.length (Ex.sub (List.getD s (Int.toNat (↑i : Int)) Ex.nil))) 5 (Ex.deep (List.getD s (Int.toNat (↑i : Int)) Ex.nil))]]))))) (.side (inR .i64 ((↑c : Int) + (1 : Int))) (.leaf (.ret [.int .i64 ((↑c : Int) + (1 : Int))] [])))) (by kernel_rfl) ?_
   simp only [Tree.holds, zd, inR, lo, hi, Int.toNat_natCast]
   refine ⟨fun hlt => ?_, fun hge => ?_⟩
   ·have hlt : i < s.length := by have := of_decide_eq_true hlt; omega
    have hg := Ex.z6 hlt
    have ht := Ex.ud s i hlt
    refine ⟨by omega, fun _ => ⟨by omega, fun _ => ⟨(s.getD i Ex.nil, limit - 1), ⟨?_, by show (s.getD i Ex.nil).size < n; omega, by show (s.getD i Ex.nil).size < 2 ^ 62; omega, by show limit - 1 < 2 ^ 40; omega⟩, ⟨_, rfl⟩, ?_⟩⟩⟩
    ·have e1 : (limit : Int) - 1 = ((limit - 1 : Nat) : Int) := by omega
     rw [e1]
     exact ⟨⟨⟨rfl, rfl⟩, rfl, rfl, ⟨rfl, rfl⟩, ⟨rfl, rfl, Ex.jf _⟩, trivial⟩, ⟨rfl, rfl⟩, trivial⟩
    rintro _ rfl
    refine ⟨by omega, fun _ => ?_⟩
    rw [if_pos trivial]
    refine ⟨⟨i + 1, hlt⟩, by show s.length - (i + 1) < s.length - i; omega, ?_, by simp, by kernel_rfl, Nat.zero_le _⟩
    simp [SDp, ht, Ex.exS, za]; omega
   ·have hge : i = s.length := by have := of_decide_eq_false hge; omega
    subst hge
    rw [List.take_length] at hc
    refine ⟨by omega, fun _ => ?_⟩
    exact RetR.scal hq rfl (by simp [resV]; omega)
 ·have hl : limit = 0 := by have := of_decide_eq_false hl; omega
  refine ⟨by decide, fun _ => ?_⟩
  exact RetR.scal hq rfl (by simp [resV]; omega)
theorem zbp : zc Tryz.prog 60 (ctrP true (fun p : Ex × Nat => [p.1.exA, .int .i64 (p.2 : Int)]) (fun p => p.1.size < 2 ^ 62 ∧ p.2 < 2 ^ 40) (fun p r => r = min p.1.depth (p.2 + 1)) (fun _ (r : Nat) => (.int .i64 (r : Int), []))) := jV (fun p => p.1.size) Vb
def KD (n : Nat) : Ctr := ctrP true (fun x : Ex => [x.exA]) (fun x => x.size < n ∧ x.size < 2 ^ 62) (fun x r => r = x.depth) (fun _ (r : Nat) => (.int .i64 (r : Int), []))
def SDr (c i : Nat) : KV := [(1, .ptr 0 0), (3, .int .i64 (c : Int)), (4, .int .i64 (i : Int))]
theorem WA (n : Nat) (ih : zc Tryz.prog 13 (KD n)) : zc Tryz.prog 13 (KD (n + 1)) := by
 refine ze (fn := Tryz.f13) (c := Tryz.f13.body.getD .skip) rfl rfl rfl fun x hx O w0 Q hq => ?_
 replace hq := hq _ rfl
 obtain ⟨hxn, hxs⟩ := hx
 have hds := Ex.kZ x
 rw [Ex.xL] at hq hds
 rw [Ex.size_eq] at hxn hxs hds
 obtain ⟨k, r, m, d, s⟩ := x
 simp only [Ex.sub] at hxn hxs hq hds
 refine zb.run hmix (k6 ih) [1, 3, 4] 400 (T := .leaf (.loop (Prod.fst (lps K13 0)) (Prod.snd (lps K13 0)) [(1, .ptr 0 0), (3, .int .i64 0), (4, .int .i64 0)] [.box [.int .u8 k, .str r, .str m, .int .i64 d, .sl s.length 5 (Ex.exG s)]])) (by kernel_rfl) ?_
 simp only [Tree.holds, zd]
 have hlen := Ex.zQ s
 refine zb.loop (ι := {i : Nat // i ≤ s.length}) (fun i => SDr (Ex.jb (s.take i.1)) i.1) (fun _ => boxE k r m d s) (fun i => s.length - i.1) ⟨0, Nat.zero_le _⟩ 0 ?_ ?_ (by kernel_rfl)
 ·exact ⟨by simp [SDr, Ex.jb], by simp [boxE, Ex.exS, za], by kernel_rfl, Nat.zero_le _⟩
 ·rintro ⟨i, hil⟩
  obtain ⟨c, hc⟩ : ∃ c, Ex.jb (s.take i) = c := ⟨_, rfl⟩
  simp only [hc]
  refine zb.run hmix (k6 ih) [1, 3, 4] 400 (T := .ite (decide ((↑i : Int) < s.length)) (.side ((0 : Int) ≤ i ∧ (↑i : Int) < s.length) (.ex (fun (x : Ex) => eqL [AV.agg [AV.int .u8 (Ex.kind (List.getD s (Int.toNat (↑i : Int)) Ex.nil)), AV.str (Ex.rat (List.getD s (Int.toNat (↑i : Int)) Ex.nil)), AV.str (Ex.name (List.getD s (Int.toNat (↑i : Int)) Ex.nil)), AV.int .i64 (Ex.date (List.getD s (Int.toNat (↑i : Int)) Ex.nil)), AV.sl (List.length (Ex.sub (List.getD s (Int.toNat (↑i : Int)) Ex.nil))) 5 (Ex.deep (List.getD s (Int.toNat (↑i : Int)) Ex.nil))]] [AV.agg [AV.int .u8 x.kind, AV.str x.rat, AV.str x.name, AV.int .i64 x.date, AV.sl x.sub.length 5 (Ex.exG x.sub)]] ∧ Ex.size x < n ∧ Ex.size x < 4611686018427387904) fun n => .all (fun (r : Nat) => r = Ex.depth n) fun n => .side (inR .i64 ((↑i : Int) + (1 : Int))) (.leaf (.back 0 [(1, .ptr 0 0), (3, .int .i64 (max (↑c : Int) (↑n : Int))), (4, .int .i64 ((↑i : Int) + (1 : Int)))] [.box [.int .u8 k, .str r, .str m, .int .i64 d, .sl s.length 5 (Ex.exG s)]])))) (.side (inR .i64 ((↑c : Int) + (1 : Int))) (.leaf (.ret [.int .i64 ((↑c : Int) + (1 : Int))] [.box [.int .u8 k, .str r, .str m, .int .i64 d, .sl s.length 5 (Ex.exG s)]])))) (by kernel_rfl) ?_
  simp only [Tree.holds, zd, inR, lo, hi, Int.toNat_natCast]
  refine ⟨fun hlt => ?_, fun hge => ?_⟩
  ·have hlt : i < s.length := by have := of_decide_eq_true hlt; omega
   have hg := Ex.z6 hlt
   have ht := Ex.ud s i hlt
   refine ⟨by omega, fun _ => ⟨s.getD i Ex.nil, ⟨wh rfl rfl rfl rfl rfl (Ex.jf _), by omega, by omega⟩, ⟨_, rfl⟩, ?_⟩⟩
   rintro _ rfl
   refine ⟨by omega, fun _ => ?_⟩
   rw [if_pos trivial]
   refine ⟨⟨i + 1, hlt⟩, by show s.length - (i + 1) < s.length - i; omega, ?_, by simp [boxE, Ex.exS, za], by kernel_rfl, Nat.zero_le _⟩
   simp [SDr, ht, hc]; omega
  ·have hge : i = s.length := by have := of_decide_eq_false hge; omega
   subst hge
   rw [List.take_length] at hc
   subst hc
   refine ⟨by omega, fun _ => ?_⟩
   exact RetR.scal hq rfl (by simp [resV]; omega)
theorem Yi : zc Tryz.prog 13 (ctrP true (fun x : Ex => [x.exA]) (fun x => x.size < 2 ^ 62) (fun x r => r = x.depth) (fun _ (r : Nat) => (.int .i64 (r : Int), []))) := jV Ex.size WA
end Go.Proofs.Tryz
end

/- Expressions: what the statements consider; the sorts. -/
section
set_option maxRecDepth 100000
open Go Go.Sx Go.Proofs Go.Nov
namespace Go.Proofs.Tryz
attribute [local simp] eqKV eqA eqA0 eqH eqB eqL eqL0
noncomputable def K5 : List Go.Sx.Item := [.code (Tryz.f5.body.getD .skip)]
noncomputable def K61 : List Go.Sx.Item := [.code (Tryz.f61.body.getD .skip)]
noncomputable def K32 : List Go.Sx.Item := [.code (Tryz.f32.body.getD .skip)]
def YK : Ctr := ctrP true (fun p : Ex × Nat × Nat => [p.1.exA, .int .i64 (p.2.1 : Int), .int .i64 (p.2.2 : Int)]) (fun p => p.2.1 < 2 ^ 40 ∧ p.2.2 < 2 ^ 40)
 (fun p (r : Nat × Bool) => 1 ≤ r.1 ∧ r.1 ≤ p.2.1 + 1 ∧ (r.2 = true → r.1 ≤ p.2.1 → r.1 = p.1.size)) (fun _ (r : Nat × Bool) => (.tup [.int .i64 (r.1 : Int), .bool r.2], []))
def Y4 : Ctr := ctrP true (fun x : Ex => [x.exA]) (fun x => x.size < 2 ^ 60 ∧ x.zx < 2 ^ 60) (fun x r => r = x.zx) (fun _ (r : Nat) => (.int .i64 (r : Int), []))
def zam : Ctr := ctrP true (fun x : Ex => [x.exA]) (fun x => x.thin) (fun x r => r = false → x.size ≤ 600 ∧ x.zx ≤ 3000) (fun _ (r : Bool) => (.bool r, []))
def GGt : Nat → Option Ctr := fun f => if f = 20 then some (YK) else if f = 21 then some (Y4) else none
theorem zf0 : ∀ g c, GGt g = some c → zc Tryz.prog g c := okIf Yy (okIf UB (okNone))
theorem Xz : zc Tryz.prog 5 zam := by
 refine ze (fn := Tryz.f5) (c := Tryz.f5.body.getD .skip) rfl rfl rfl fun x hx O w0 Q hq => ?_
 have hb := Ex.Qs x hx
 obtain ⟨k, r, m, d, s⟩ := x
 refine zb.run hmix zf0 [] 400 (T := .ex (fun (x : Ex × Nat × Nat) => eqL [AV.agg [AV.int .u8 k, AV.str r, AV.str m, AV.int .i64 d, AV.sl s.length 5 (Ex.exG s)], AV.int .i64 600, AV.int .i64 100] [AV.agg [AV.int .u8 x.1.kind, AV.str x.1.rat, AV.str x.1.name, AV.int .i64 x.1.date, AV.sl x.1.sub.length 5 (Ex.exG x.1.sub)], AV.int .i64 (↑(x.2.1) : Int), AV.int .i64 (↑(x.2.2) : Int)] ∧ x.2.1 < 1099511627776 ∧ x.2.2 < 1099511627776) fun n => .all (fun (r : Nat × Bool) => 1 ≤ r.1 ∧ r.1 ≤ n.2.1 + 1 ∧ (r.2 = true → r.1 ≤ n.2.1 → r.1 = Ex.size n.1)) fun n => .ex (fun (x : Ex) => (bif !Prod.snd n then true else decide ((600 : Int) < n.1)) = false → eqL [AV.agg [AV.int .u8 k, AV.str r, AV.str m, AV.int .i64 d, AV.sl s.length 5 (Ex.exG s)]] [AV.agg [AV.int .u8 x.kind, AV.str x.rat, AV.str x.name, AV.int .i64 x.date, AV.sl x.sub.length 5 (Ex.exG x.sub)]] ∧ Ex.size x < 1152921504606846976 ∧ Ex.zx x < 1152921504606846976) fun n_1 => .all (fun (x : Nat) => (bif !Prod.snd n then true else decide ((600 : Int) < n.1)) = false → x = Ex.zx n_1) fun n_2 => .leaf (.ret [.bool (bif bif !Prod.snd n then true else decide ((600 : Int) < n.1) then true else decide ((3000 : Int) < n_2))] [.box [.int .u8 k, .str r, .str m, .int .i64 d, .sl s.length 5 (Ex.exG s)]])) (by kernel_rfl) ?_
 simp only [Tree.holds, zd, inR, lo, hi, Int.toNat_natCast]
 refine ⟨(.mk k r m d s, 600, 100), ⟨⟨⟨⟨rfl, rfl⟩, rfl, rfl, ⟨rfl, rfl⟩, ⟨rfl, rfl, za _ _ _⟩, trivial⟩, ⟨rfl, rfl⟩, ⟨rfl, rfl⟩, trivial⟩, by show 600 < 1099511627776; omega, by show 100 < 1099511627776; omega⟩, ⟨(1, false), Nat.le_refl _, by show 1 ≤ 600 + 1; omega, fun h => by cases h⟩, ?_⟩
 rintro ⟨c, b⟩ ⟨g1, g2, g3⟩
 simp only at g1 g2 g3
 have hsz : (bif !b then true else decide (600 < (c : Int))) = false → (Ex.mk k r m d s).size ≤ 600 := by
  intro h
  cases b with
  | false => cases h
  | true =>
   have h : ¬ 600 < (c : Int) := of_decide_eq_false h
   have := g3 rfl (by omega)
   omega
 refine ⟨.mk k r m d s, fun h => ⟨⟨⟨⟨rfl, rfl⟩, rfl, rfl, ⟨rfl, rfl⟩, ⟨rfl, rfl, za _ _ _⟩, trivial⟩, trivial⟩, by have := hsz h; omega, by have := hsz h; omega⟩, ⟨_, fun _ => rfl⟩, ?_⟩
 intro c2 hc2
 refine RetR.scal (hq (bif (bif !b then true else decide (600 < (c : Int))) then true else decide (3000 < (c2 : Int))) fun h => ?_) rfl (by simp [resV])
 cases ht : (bif !b then true else decide (600 < (c : Int))) with
 | true => rw [ht] at h; cases h
 | false =>
  rw [ht] at h
  have h2 := hc2 ht
  have h : ¬ 3000 < (c2 : Int) := of_decide_eq_false h
  exact ⟨hsz ht, by omega⟩
def zdn : Ctr := ctrP true (fun x : Ex => [x.exA]) (fun x => x.rat.length < 2 ^ 40 ∧ x.name.length < 2 ^ 40) (fun x r => r = bif zZ x.kind x.rat x.name x.date x.sub.length then 1 else 0) (fun _ (r : Int) => (.int .u8 r, []))
def GLf : Nat → Option Ctr := fun f => if f = 55 then some (uy) else if f = 54 then some (uh) else if f = 41 then some (wS) else none
theorem zg3 : ∀ g c, GLf g = some c → zc Tryz.prog g c := okIf yQ (okIf Xe (okIf yy (okNone)))
theorem zdh : zc Tryz.prog 61 zdn := by
 refine ze (fn := Tryz.f61) (c := Tryz.f61.body.getD .skip) rfl rfl rfl fun x hx O w0 Q hq => ?_
 obtain ⟨k, r, m, d, s⟩ := x
 replace hq := hq _ rfl
 obtain ⟨h1, h2⟩ := hx
 simp only [Ex.rat, Ex.name, Ex.kind, Ex.date, Ex.sub] at h1 h2 hq
 refine zb.run hmix zg3 [] 400 (T := .ite (decide (k = 1)) (.ex (fun (x : List UInt8) => decide ((↑s.length : Int) = 0) = true → eqL [AV.str r] [AV.str x] ∧ x.length < 4611686018427387904) fun n => .all (fun (x : Int) => decide ((↑s.length : Int) = 0) = true → x = errR n) fun n => .ite (!bif bif bif decide ((↑s.length : Int) = 0) then decide (n = 0) else false then decide (m = Array.toList #[]) else false then decide (d = 0) else false) (.leaf (.ret [.int .u8 0] [.box [.int .u8 k, .str r, .str m, .int .i64 d, .sl s.length 5 (Ex.exG s)]])) (.leaf (.ret [.int .u8 1] [.box [.int .u8 k, .str r, .str m, .int .i64 d, .sl s.length 5 (Ex.exG s)]]))) (.ite (decide (k = 2)) (.ex (fun (x : List UInt8) => (bif decide ((↑s.length : Int) = 0) then decide (r = Array.toList #[]) else false) = true → eqL [AV.str m] [AV.str x] ∧ x.length < 4611686018427387904) fun n => .all (fun (x : Bool) => (bif decide ((↑s.length : Int) = 0) then decide (r = Array.toList #[]) else false) = true → x = qe n) fun n => .ex (fun (x : Int) => (bif bif decide ((↑s.length : Int) = 0) then decide (r = Array.toList #[]) else false then n else false) = true → eqL [AV.int .i64 d] [AV.int .i64 x] ∧ True) fun n_1 => .all (fun (x : Bool) => (bif bif decide ((↑s.length : Int) = 0) then decide (r = Array.toList #[]) else false then n else false) = true → x = dayB n_1) fun n_2 => .ite (!bif bif bif decide ((↑s.length : Int) = 0) then decide (r = Array.toList #[]) else false then n else false then n_2 else false) (.leaf (.ret [.int .u8 0] [.box [.int .u8 k, .str r, .str m, .int .i64 d, .sl s.length 5 (Ex.exG s)]])) (.leaf (.ret [.int .u8 1] [.box [.int .u8 k, .str r, .str m, .int .i64 d, .sl s.length 5 (Ex.exG s)]]))) (.ite (decide (k = 3)) (.ex (fun (x : List UInt8) => (bif decide ((↑s.length : Int) = 0) then decide (r = Array.toList #[]) else false) = true → eqL [AV.str m] [AV.str x] ∧ x.length < 4611686018427387904) fun n => .all (fun (x : Bool) => (bif decide ((↑s.length : Int) = 0) then decide (r = Array.toList #[]) else false) = true → x = qe n) fun n => .ite (!bif bif bif decide ((↑s.length : Int) = 0) then decide (r = Array.toList #[]) else false then n else false then decide (d = 0) else false) (.leaf (.ret [.int .u8 0] [.box [.int .u8 k, .str r, .str m, .int .i64 d, .sl s.length 5 (Ex.exG s)]])) (.leaf (.ret [.int .u8 1] [.box [.int .u8 k, .str r, .str m, .int .i64 d, .sl s.length 5 (Ex.exG s)]]))) (.ite true (.leaf (.ret [.int .u8 0] [.box [.int .u8 k, .str r, .str m, .int .i64 d, .sl s.length 5 (Ex.exG s)]])) (.leaf (.ret [.int .u8 1] [.box [.int .u8 k, .str r, .str m, .int .i64 d, .sl s.length 5 (Ex.exG s)]])))))) (by kernel_rfl) ?_
 simp only [Tree.holds, zd, inR, lo, hi, Int.toNat_natCast]
 have fin : ∀ T : Bool, T = zZ k r m d s.length → ((!T) = true → Q (.int .u8 0, [])) ∧ ((!T) = false → Q (.int .u8 1, [])) := by
  intro T hT
  subst hT
  cases hl : zZ k r m d s.length with
  | true => rw [hl] at hq; exact ⟨fun h => (by cases h), fun _ => hq⟩
  | false => rw [hl] at hq; exact ⟨fun _ => hq, fun h => (by cases h)⟩
 refine ⟨fun hk => ?_, fun hk => ?_⟩
 ·have hk : k = 1 := of_decide_eq_true hk
  refine ⟨r, fun _ => ⟨by simp, by omega⟩, ⟨_, fun _ => rfl⟩, ?_⟩
  intro e he
  have F := fin (bif bif bif decide ((s.length : Int) = 0) then decide (e = 0) else false then decide (m = []) else false then decide (d = 0) else false) (by
   by_cases hl : s.length = 0
   ·have := he (by simp [hl])
    subst this
    simp [zZ, hk, hl, Bool.and_assoc]
   ·simp [zZ, hl])
  exact ⟨fun h => RetR.scal (F.1 h) rfl (by simp [resV]), fun h => RetR.scal (F.2 h) rfl (by simp [resV])⟩
 ·have hk1 : k ≠ 1 := of_decide_eq_false hk
  refine ⟨fun hk => ?_, fun hk => ?_⟩
  ·have hk : k = 2 := of_decide_eq_true hk
   refine ⟨m, fun _ => ⟨by simp, by omega⟩, ⟨_, fun _ => rfl⟩, ?_⟩
   intro e he
   refine ⟨d, fun _ => ⟨by simp, trivial⟩, ⟨_, fun _ => rfl⟩, ?_⟩
   intro f hf
   have F := fin (bif bif bif decide ((s.length : Int) = 0) then decide (r = []) else false then e else false then f else false) (by
    by_cases hl : s.length = 0
    ·by_cases hr : r = []
     ·have := he (by simp [hl, hr])
      subst this
      cases hn : qe m with
      | true =>
       have := hf (by simp [hl, hr, hn])
       subst this
       simp [zZ, hk, hl, hr, hn]
      | false => simp [zZ, hk, hl, hr, hn]
     ·simp [zZ, hk, hl, hr]
    ·simp [zZ, hl])
   exact ⟨fun h => RetR.scal (F.1 h) rfl (by simp [resV]), fun h => RetR.scal (F.2 h) rfl (by simp [resV])⟩
  ·have hk2 : k ≠ 2 := of_decide_eq_false hk
   refine ⟨fun hk => ?_, fun hk => ?_⟩
   ·have hk : k = 3 := of_decide_eq_true hk
    refine ⟨m, fun _ => ⟨by simp, by omega⟩, ⟨_, fun _ => rfl⟩, ?_⟩
    intro e he
    have F := fin (bif bif bif decide ((s.length : Int) = 0) then decide (r = []) else false then e else false then decide (d = 0) else false) (by
     by_cases hl : s.length = 0
     ·by_cases hr : r = []
      ·have := he (by simp [hl, hr])
       subst this
       simp [zZ, hk, hl, hr]
      ·simp [zZ, hk, hl, hr]
     ·simp [zZ, hl])
    exact ⟨fun h => RetR.scal (F.1 h) rfl (by simp [resV]), fun h => RetR.scal (F.2 h) rfl (by simp [resV])⟩
   ·have hk3 : k ≠ 3 := of_decide_eq_false hk
    have F := fin false (by simp [zZ, hk1, hk2, hk3])
    exact ⟨fun h => RetR.scal (F.1 rfl) rfl (by simp [resV]), fun h => by cases h⟩
def SSo (s : List Ex) (i : Nat) : KV := [(3, .ptr 1 0), (41, Ex.exS s), (42, .int .i64 (s.length : Int)), (43, .int .i64 (i : Int))]
def HSo (k : Int) : Heap := [.dead, .box [.sl (ja k) 1 fun j _ => .int .u8 (qt k j), .int .u8 (qK k)]]
def Kh (n : Nat) : Ctr := ctrP true (fun x : Ex => [x.exA]) (fun x => x.size < n ∧ x.size < 2 ^ 60 ∧ x.zx < 2 ^ 40) (fun x r => r = x.z9) (fun _ (r : Int) => (.int .u8 r, []))
def GSo (n : Nat) : Nat → Option Ctr := fun f => if f = 32 then some (Kh n) else if f = 61 then some zdn else none
theorem UQ {n : Nat} (h : zc Tryz.prog 32 (Kh n)) : ∀ f c, GSo n f = some c → zc Tryz.prog f c := by
 intro f c hf
 simp only [GSo] at hf
 split at hf
 ·rename_i hg; subst hg; cases hf; exact h
 ·split at hf
  ·rename_i hg; subst hg; cases hf; exact zdh
  ·cases hf
theorem Xr (n : Nat) (ih : zc Tryz.prog 32 (Kh n)) : zc Tryz.prog 32 (Kh (n + 1)) := by
 refine ze (fn := Tryz.f32) (c := Tryz.f32.body.getD .skip) rfl rfl rfl fun x hx O w0 Q hq => ?_
 replace hq := hq _ rfl
 obtain ⟨hxn, hxs, hxb⟩ := hx
 rw [Ex.size_eq] at hxn hxs
 rw [Ex.y8] at hxb
 rw [Ex.yi] at hq
 obtain ⟨k, r, m, d, s⟩ := x
 simp only [Ex.sub, Ex.rat, Ex.name, Ex.kind, Ex.date] at hxn hxs hq hxb
 refine zb.run hmix (UQ ih) [3, 41, 42, 43] 400 (T := .ite (qP k) (.ite false (.ex (fun (x : Ex) => eqL [AV.agg [AV.int .u8 k, AV.str r, AV.str m, AV.int .i64 d, AV.sl s.length 5 (Ex.exG s)]] [AV.agg [AV.int .u8 x.kind, AV.str x.rat, AV.str x.name, AV.int .i64 x.date, AV.sl x.sub.length 5 (Ex.exG x.sub)]] ∧ x.rat.length < 1099511627776 ∧ x.name.length < 1099511627776) fun n => .all (fun (r : Int) => r = bif zZ n.kind n.rat n.name n.date n.sub.length then (1 : Int) else (0 : Int)) fun n => .leaf (.ret [.int .u8 n] [.box [.int .u8 k, .str r, .str m, .int .i64 d, .sl s.length 5 (Ex.exG s)], .box [.sl (ja k) 1 fun (j x : Nat) => .int .u8 (qt k j), .int .u8 (qK k)]])) (.ite (bif bif bif !decide ((↑s.length : Int) = (↑(ja k) : Int)) then true else !decide (r = Array.toList #[]) then true else !decide (m = Array.toList #[]) then true else !decide (d = 0)) (.leaf (.ret [.int .u8 0] [.box [.int .u8 k, .str r, .str m, .int .i64 d, .sl s.length 5 (Ex.exG s)], .box [.sl (ja k) 1 fun (j x : Nat) => .int .u8 (qt k j), .int .u8 (qK k)]])) (.leaf (.loop (Prod.fst (lps K32 0)) (Prod.snd (lps K32 0)) [(3, .ptr 1 0), (41, .sl s.length 5 (Ex.exG s)), (42, .int .i64 s.length), (43, .int .i64 0)] [.box [.int .u8 k, .str r, .str m, .int .i64 d, .sl s.length 5 (Ex.exG s)], .box [.sl (ja k) 1 fun (j x : Nat) => .int .u8 (qt k j), .int .u8 (qK k)]])))) (.ite true (.ex (fun (x : Ex) => eqL [AV.agg [AV.int .u8 k, AV.str r, AV.str m, AV.int .i64 d, AV.sl s.length 5 (Ex.exG s)]] [AV.agg [AV.int .u8 x.kind, AV.str x.rat, AV.str x.name, AV.int .i64 x.date, AV.sl x.sub.length 5 (Ex.exG x.sub)]] ∧ x.rat.length < 1099511627776 ∧ x.name.length < 1099511627776) fun n => .all (fun (r : Int) => r = bif zZ n.kind n.rat n.name n.date n.sub.length then (1 : Int) else (0 : Int)) fun n => .leaf (.ret [.int .u8 n] [.box [.int .u8 k, .str r, .str m, .int .i64 d, .sl s.length 5 (Ex.exG s)], .box [.nils, .int .u8 0]])) (.ite (bif bif bif !decide ((↑s.length : Int) = 0) then true else !decide (r = Array.toList #[]) then true else !decide (m = Array.toList #[]) then true else !decide (d = 0)) (.leaf (.ret [.int .u8 0] [.box [.int .u8 k, .str r, .str m, .int .i64 d, .sl s.length 5 (Ex.exG s)], .box [.nils, .int .u8 0]])) (.leaf (.loop (Prod.fst (lps K32 0)) (Prod.snd (lps K32 0)) [(3, .ptr 1 0), (41, .sl s.length 5 (Ex.exG s)), (42, .int .i64 s.length), (43, .int .i64 0)] [.box [.int .u8 k, .str r, .str m, .int .i64 d, .sl s.length 5 (Ex.exG s)], .box [.nils, .int .u8 0]]))))) (by kernel_rfl) ?_
 simp only [Tree.holds, zd, inR, lo, hi, Int.toNat_natCast]
 refine ⟨fun hk => ⟨fun h => (by cases h), fun _ => ⟨fun h => ?_, fun h => ?_⟩⟩, fun hk => ?_⟩
 ·have hn : ¬ (r = [] ∧ m = [] ∧ d = 0 ∧ Ex.q7 s = qN k) := by
   rintro ⟨rfl, rfl, rfl, h4⟩
   have : s.length = ja k := by rw [← Ex.qU, h4]; rfl
   simp [this] at h
  have e : jm k r m d (Ex.q7 s) = 0 := by unfold jm; rw [if_pos hk, if_neg hn]
  exact RetR.scal hq rfl (by simp [resV, e])
 ·have hh : s.length = ja k ∧ r = [] ∧ m = [] ∧ d = 0 := by
   simp at h
   obtain ⟨⟨⟨h1, h2⟩, h3⟩, h4⟩ := h
   exact ⟨by omega, h2, h3, h4⟩
  obtain ⟨hl, rfl, rfl, rfl⟩ := hh
  have hlen := Ex.zQ s
  have e1 : jm k [] [] 0 (Ex.q7 s) = if Ex.q7 s = qN k then qK k else 0 := by unfold jm; rw [if_pos hk]; simp
  rw [e1] at hq
  clear h e1
  refine zb.loop (ι := {i : Nat // i ≤ s.length ∧ ∀ j, j < i → (s.getD j Ex.nil).z9 = qt k j}) (fun i => SSo s i.1) (fun _ => HSo k) (fun i => s.length - i.1) ⟨0, Nat.zero_le _, fun j hj => by omega⟩ 0 ?_ ?_ (by kernel_rfl)
  ·exact ⟨by simp [SSo, Ex.exS, za], by simp [HSo, za], by kernel_rfl, Nat.zero_le _⟩
  ·rintro ⟨i, hil, hib⟩
   refine zb.run hmix (UQ ih) [3, 41, 42, 43] 400 (T := .ite (decide ((↑i : Int) < s.length)) (.side ((0 : Int) ≤ i ∧ (↑i : Int) < s.length) (.side ((0 : Int) ≤ i ∧ (↑i : Int) < (↑(ja k) : Int)) (.ex (fun (x : Ex) => eqL [AV.agg [AV.int .u8 (Ex.kind (List.getD s (Int.toNat (↑i : Int)) Ex.nil)), AV.str (Ex.rat (List.getD s (Int.toNat (↑i : Int)) Ex.nil)), AV.str (Ex.name (List.getD s (Int.toNat (↑i : Int)) Ex.nil)), AV.int .i64 (Ex.date (List.getD s (Int.toNat (↑i : Int)) Ex.nil)), AV.sl (List.length (Ex.sub (List.getD s (Int.toNat (↑i : Int)) Ex.nil))) 5 (Ex.deep (List.getD s (Int.toNat (↑i : Int)) Ex.nil))]] [AV.agg [AV.int .u8 x.kind, AV.str x.rat, AV.str x.name, AV.int .i64 x.date, AV.sl x.sub.length 5 (Ex.exG x.sub)]] ∧ Ex.size x < n ∧ Ex.size x < 1152921504606846976 ∧ Ex.zx x < 1099511627776) fun n => .all (fun (r : Int) => r = Ex.z9 n) fun n => .ite (!decide (n = qt k (Int.toNat (↑i : Int)))) (.leaf (.ret [.int .u8 0] [.dead, .box [.sl (ja k) 1 fun (j x : Nat) => .int .u8 (qt k j), .int .u8 (qK k)], .box [.int .u8 (Ex.kind (List.getD s (Int.toNat (↑i : Int)) Ex.nil)), .str (Ex.rat (List.getD s (Int.toNat (↑i : Int)) Ex.nil)), .str (Ex.name (List.getD s (Int.toNat (↑i : Int)) Ex.nil)), .int .i64 (Ex.date (List.getD s (Int.toNat (↑i : Int)) Ex.nil)), .sl (List.length (Ex.sub (List.getD s (Int.toNat (↑i : Int)) Ex.nil))) 5 (Ex.deep (List.getD s (Int.toNat (↑i : Int)) Ex.nil))]])) (.side (inR .i64 ((↑i : Int) + (1 : Int))) (.leaf (.back 0 [(3, .ptr 1 0), (41, .sl s.length 5 (Ex.exG s)), (42, .int .i64 s.length), (43, .int .i64 ((↑i : Int) + (1 : Int)))] [.dead, .box [.sl (ja k) 1 fun (j x : Nat) => .int .u8 (qt k j), .int .u8 (qK k)], .box [.int .u8 (Ex.kind (List.getD s (Int.toNat (↑i : Int)) Ex.nil)), .str (Ex.rat (List.getD s (Int.toNat (↑i : Int)) Ex.nil)), .str (Ex.name (List.getD s (Int.toNat (↑i : Int)) Ex.nil)), .int .i64 (Ex.date (List.getD s (Int.toNat (↑i : Int)) Ex.nil)), .sl (List.length (Ex.sub (List.getD s (Int.toNat (↑i : Int)) Ex.nil))) 5 (Ex.deep (List.getD s (Int.toNat (↑i : Int)) Ex.nil))]])))))) (.leaf (.ret [.int .u8 (qK k)] [.dead, .box [.sl (ja k) 1 fun (j x : Nat) => .int .u8 (qt k j), .int .u8 (qK k)]]))) (by kernel_rfl) ?_
   simp only [Tree.holds, zd, inR, lo, hi, Int.toNat_natCast]
   refine ⟨fun hlt => ?_, fun hge => ?_⟩
   ·have hlt : i < s.length := by have := of_decide_eq_true hlt; omega
    have hg := Ex.z6 hlt
    have hg2 := Ex.xz hlt
    have hb0 : Ex.qf s < 2 ^ 40 := by simpa using hxb
    refine ⟨by omega, fun _ => ⟨by omega, fun _ => ⟨s.getD i Ex.nil, ⟨wh rfl rfl rfl rfl rfl (Ex.jf _), by omega, by omega, by omega⟩, ⟨_, rfl⟩, ?_⟩⟩⟩
    intro e he
    refine ⟨fun h => ?_, fun h => ⟨by omega, fun _ => ?_⟩⟩
    ·have hne : ¬ Ex.q7 s = qN k := by
      intro h2
      have := (Ex.yk.1 h2).2 i hlt
      rw [← he] at this
      have h3 : ¬ e = qt k i := by simpa using h
      exact h3 this
     rw [if_neg hne] at hq
     exact RetR.scal hq rfl (by simp [resV])
    ·rw [if_pos trivial]
     have h3 : e = qt k i := by simpa using h
     refine ⟨⟨i + 1, hlt, fun j hj => ?_⟩, by show s.length - (i + 1) < s.length - i; omega, by simp [SSo, Ex.exS, za], by simp [HSo, za], by kernel_rfl, Nat.zero_le _⟩
     rcases Nat.lt_or_ge j i with h1 | h1
     ·exact hib j h1
     ·have : j = i := by omega
      rw [this, ← he, h3]
   ·have hge : i = s.length := by have := of_decide_eq_false hge; omega
    subst hge
    have : Ex.q7 s = qN k := Ex.yk.2 ⟨hl, hib⟩
    rw [if_pos this] at hq
    exact RetR.scal hq rfl (by simp [resV])
 ·refine ⟨fun _ => ?_, fun h => (by cases h)⟩
  refine ⟨.mk k r m d s, ⟨⟨⟨⟨rfl, rfl⟩, rfl, rfl, ⟨rfl, rfl⟩, ⟨rfl, rfl, za _ _ _⟩, trivial⟩, trivial⟩, by show r.length < _; omega, by show m.length < _; omega⟩, ⟨_, rfl⟩, ?_⟩
  intro e he
  have e1 : jm k r m d (Ex.q7 s) = e := by
   unfold jm
   rw [if_neg (by rw [hk]; decide), he, Ex.qU]
   show _ = bif zZ k r m d s.length then 1 else 0
   cases zZ k r m d s.length <;> rfl
  rw [e1] at hq
  exact RetR.scal hq rfl (by simp [resV])
def QV : Ctr := ctrP true (fun x : Ex => [x.exA]) (fun x => x.size < 2 ^ 60 ∧ x.zx < 2 ^ 40) (fun x r => r = x.z9) (fun _ (r : Int) => (.int .u8 r, []))
theorem Xa : zc Tryz.prog 32 QV := jV Ex.size Xr
end Go.Proofs.Tryz
end
