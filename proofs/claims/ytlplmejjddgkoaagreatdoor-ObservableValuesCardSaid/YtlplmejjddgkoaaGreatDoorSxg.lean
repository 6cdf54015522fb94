/- The law returns true for every input, and each argument reads afterwards as it read before; no condition. -/
import Derived.Test.YtlplmejjddgkoaaGreatDoorSxf
import Derived.SizedLaws
import Derived.ChangeArms
import Derived.Deep.Slices
import Derived.Carry
import Derived.LaidMore
import Derived.WideKeyElems2
import Derived.ProofKit
import Derived.OpenShut
import Derived.ReadAgain
import Derived.Test.YtlplmejjddgkoaaGreatDoorRows
import Derived.MakeChecks
import Derived.Test.YtlplmejjddgkoaaGreatDoorCards
import Derived.Test.YtlplmejjddgkoaaGreatDoorTie
import Derived.Stop.Joined
import Derived.SevenTiedAt
set_option linter.unusedVariables false
set_option linter.unusedSimpArgs false
set_option linter.unusedSectionVars false

/- The reference's evaluation. -/
section
set_option maxRecDepth 100000
open Go Go.Sx Go.Proofs Go.Nov
namespace Go.Proofs.Tryz
attribute [local simp] eqKV eqA eqA0 eqH eqB eqL eqL0
noncomputable def K48 : List Go.Sx.Item := [.code (Tryz.f48.body.getD .skip)]
noncomputable def K25 : List Go.Sx.Item := [.code (Tryz.f25.body.getD .skip)]
noncomputable def K27 : List Go.Sx.Item := [.code (Tryz.f27.body.getD .skip)]
noncomputable def K24 : List Go.Sx.Item := [.code (Tryz.f24.body.getD .skip)]
noncomputable def K8 : List Go.Sx.Item := [.code (Tryz.f8.body.getD .skip)]
noncomputable def K10 : List Go.Sx.Item := [.code (Tryz.f10.body.getD .skip)]
def zeh : Ctr := ctrP true (fun p : (List Fx × List Ch) × (List UInt8 × Int) => [envA p.1.1 p.1.2, .str p.2.1, .int .i64 p.2.2]) (fun p => p.1.1.length < 2 ^ 40) (fun p r => r = fixR p.1.1 p.2.1 p.2.2) (fun _ r => (.tup [.str r.1, .int .i64 r.2], []))
def GRx : Nat → Option Ctr := fun f => if f = 82 then some (KH) else none
theorem zf3 : ∀ g c, GRx g = some c → zc Tryz.prog g c := okIf YP (okNone)
theorem XI : zc Tryz.prog 48 zeh := by
 refine ze (fn := Tryz.f48) (c := Tryz.f48.body.getD .skip) rfl rfl rfl fun p hp O w0 Q hq => ?_
 obtain ⟨⟨f, c⟩, x, d⟩ := p
 replace hq := hq _ rfl
 simp only at hp hq
 unfold fixR at hq
 refine zb.run hmix zf3 [] 400 (T := .ex (fun (x_1 : (List Fx × List Ch) × List UInt8 × Int) => eqL [AV.agg [AV.sl f.length 3 (fxG f), AV.sl c.length 4 (chG c)], AV.str x, AV.int .i64 d] [AV.agg [AV.sl (List.length (x_1.1.1)) 3 (fxG (x_1.1.1)), AV.sl x_1.1.2.length 4 (chG x_1.1.2)], AV.str (x_1.2.1), AV.int .i64 (x_1.2.2)] ∧ List.length (x_1.1.1) < 1099511627776) fun n => .all (fun (r : List UInt8 × Bool) => r = jp (n.1.1) (n.2.1) (n.2.2)) fun n => .ite (!Prod.snd n) (.leaf (.ret [.str (Array.toList #[]), .int .i64 30] [.box [.sl f.length 3 (fxG f), .sl c.length 4 (chG c)]])) (.leaf (.ret [.str n.1, .int .i64 0] [.box [.sl f.length 3 (fxG f), .sl c.length 4 (chG c)]]))) (by kernel_rfl) ?_
 simp only [Tree.holds, zd]
 refine ⟨((f, c), (x, d)), ⟨⟨⟨⟨rfl, rfl, za _ _ _⟩, ⟨rfl, rfl, za _ _ _⟩, trivial⟩, rfl, ⟨rfl, rfl⟩, trivial⟩, hp⟩, ⟨_, rfl⟩, ?_⟩
 rintro _ rfl
 refine ⟨fun h => ?_, fun h => ?_⟩
 ·have h : (jp f x d).2 = false := by simpa using h
  rw [if_neg (by rw [h]; decide)] at hq
  exact RetR.scal hq rfl (by simp [resV])
 ·have h : (jp f x d).2 = true := by simpa using h
  rw [if_pos h] at hq
  exact RetR.scal hq rfl (by simp [resV])
structure VR where
 x : Ex
 day : Int
 f : List Fx
 c : List Ch
def VR.pre (z : Int) (k : VR) : Prop := k.x.z9 = z ∧ k.f.all okF = true ∧ k.f.length < 2 ^ 40
def VR.ev (k : VR) : Ev := k.x.ev k.f k.day
def v5 (p : VR → Prop) : Ctr := ctrP true (fun k : VR => [k.x.exA, .int .i64 k.day, envA k.f k.c]) p (fun k r => r.2 = k.ev.e ∧ r.1 = if k.ev.e = 0 then k.ev.v else []) (fun _ (r : List UInt8 × Int) => (.tup [.str r.1, .int .i64 r.2], []))
def ue (p : VR → Prop) : Ctr := ctrP true (fun k : VR => [k.x.exA, .int .i64 k.day, envA k.f k.c]) p (fun k r => r.2 = k.ev.g ∧ r.1 = if k.ev.g = 0 then k.ev.b else false) (fun _ (r : Bool × Int) => (.tup [.bool r.1, .int .i64 r.2], []))
def GVb (n : Nat) : Nat → Option Ctr := fun f => if f = 25 then some (v5 fun k => k.x.size < n ∧ k.pre 1) else if f = 27 then some (ue fun k => k.x.size < n ∧ k.pre 2) else if f = 48 then some zeh
 else if f = 49 then some Kb else if f = 50 then some Y9 else if f = 51 then some za2 else if f = 52 then some zaq else none
theorem zax {n : Nat} (h1 : zc Tryz.prog 25 (v5 fun k => k.x.size < n ∧ k.pre 1)) (h2 : zc Tryz.prog 27 (ue fun k => k.x.size < n ∧ k.pre 2)) : ∀ f c, GVb n f = some c → zc Tryz.prog f c := by
 intro f c hf
 unfold GVb at hf
 iterate 7
  split at hf
  ·rename_i hg; subst hg; cases hf; first | exact h1 | exact h2 | exact XI | exact WG | exact UJ | exact Ud | exact U8
 cases hf
theorem v7 (k : VR) : ∃ r : List UInt8 × Int, r.2 = k.ev.e ∧ r.1 = if k.ev.e = 0 then k.ev.v else [] := ⟨(_, _), rfl, rfl⟩
theorem yj (k : VR) : ∃ r : Bool × Int, r.2 = k.ev.g ∧ r.1 = if k.ev.g = 0 then k.ev.b else false := ⟨(_, _), rfl, rfl⟩
theorem eqX3 (x : Ex) (day : Int) (f : List Fx) (c : List Ch) : eqL [.agg [.int .u8 x.kind, .str x.rat, .str x.name, .int .i64 x.date, .sl x.sub.length 5 x.deep], .int .i64 day, envA f c] [x.exA, .int .i64 day, envA f c] := ⟨⟨⟨rfl, rfl⟩, rfl, rfl, ⟨rfl, rfl⟩, ⟨rfl, rfl, Ex.jf _⟩, trivial⟩, ⟨rfl, rfl⟩, ⟨⟨rfl, rfl, za _ _ _⟩, ⟨rfl, rfl, za _ _ _⟩, trivial⟩, trivial⟩
section
variable (n : Nat) (h1 : zc Tryz.prog 25 (v5 fun k => k.x.size < n ∧ k.pre 1)) (h2 : zc Tryz.prog 27 (ue fun k => k.x.size < n ∧ k.pre 2))
include h1 h2
theorem Yl : zc Tryz.prog 25 (v5 fun k => k.x.size < n + 1 ∧ k.pre 1) := by
 refine ze (fn := Tryz.f25) (c := Tryz.f25.body.getD .skip) rfl rfl rfl fun k hk O w0 Q hq => ?_
 obtain ⟨⟨k, r, m, d, s⟩, day, f, c⟩ := k
 obtain ⟨hn, hs, hf, hfl⟩ := hk
 simp only at hn hs hf hfl
 have hq0 : ∀ t : List UInt8 × Int, t.2 = ((Ex.mk k r m d s).ev f day).e → t.1 = (if ((Ex.mk k r m d s).ev f day).e = 0 then ((Ex.mk k r m d s).ev f day).v else []) → Q (.tup [.str t.1, .int .i64 t.2], []) := fun t g1 g2 => hq t ⟨g1, g2⟩
 clear hq
 refine zb.run hmix (zax h1 h2) [] 400 (T := .ite (decide (k = 1)) (.leaf (.ret [.str r, .int .i64 0] [.box [.int .u8 k, .str r, .str m, .int .i64 d, .sl s.length 5 (Ex.exG s)], .box [.sl f.length 3 (fxG f), .sl c.length 4 (chG c)]])) (.ite (decide (k = 2)) (.ex (fun (x : (List Fx × List Ch) × List UInt8 × Int) => eqL [AV.agg [AV.sl f.length 3 (fxG f), AV.sl c.length 4 (chG c)], AV.str m, AV.int .i64 d] [AV.agg [AV.sl (List.length (x.1.1)) 3 (fxG (x.1.1)), AV.sl x.1.2.length 4 (chG x.1.2)], AV.str (x.2.1), AV.int .i64 (x.2.2)] ∧ List.length (x.1.1) < 1099511627776) fun n => .all (fun (r : List UInt8 × Int) => r = fixR (n.1.1) (n.2.1) (n.2.2)) fun n => .leaf (.ret [.str n.1, .int .i64 n.2] [.box [.int .u8 k, .str r, .str m, .int .i64 d, .sl s.length 5 (Ex.exG s)], .box [.sl f.length 3 (fxG f), .sl c.length 4 (chG c)]])) (.ite (decide (k = 3)) (.ex (fun (x : (List Fx × List Ch) × List UInt8 × Int) => eqL [AV.agg [AV.sl f.length 3 (fxG f), AV.sl c.length 4 (chG c)], AV.str m, AV.int .i64 day] [AV.agg [AV.sl (List.length (x.1.1)) 3 (fxG (x.1.1)), AV.sl x.1.2.length 4 (chG x.1.2)], AV.str (x.2.1), AV.int .i64 (x.2.2)] ∧ List.length (x.1.1) < 1099511627776) fun n => .all (fun (r : List UInt8 × Int) => r = fixR (n.1.1) (n.2.1) (n.2.2)) fun n => .leaf (.ret [.str n.1, .int .i64 n.2] [.box [.int .u8 k, .str r, .str m, .int .i64 d, .sl s.length 5 (Ex.exG s)], .box [.sl f.length 3 (fxG f), .sl c.length 4 (chG c)]])) (.ite (decide (k = 9)) (.side ((0 : Int) ≤ 0 ∧ (0 : Int) < s.length) (.ex (fun (x : VR) => eqL [AV.agg [AV.int .u8 (Ex.kind (s.getD 0 Ex.nil)), AV.str (Ex.rat (s.getD 0 Ex.nil)), AV.str (Ex.name (s.getD 0 Ex.nil)), AV.int .i64 (Ex.date (s.getD 0 Ex.nil)), AV.sl (List.length (Ex.sub (s.getD 0 Ex.nil))) 5 (Ex.deep (s.getD 0 Ex.nil))], AV.int .i64 day, AV.agg [AV.sl f.length 3 (fxG f), AV.sl c.length 4 (chG c)]] [AV.agg [AV.int .u8 x.x.kind, AV.str x.x.rat, AV.str x.x.name, AV.int .i64 x.x.date, AV.sl x.x.sub.length 5 (Ex.exG x.x.sub)], AV.int .i64 x.day, AV.agg [AV.sl x.f.length 3 (fxG x.f), AV.sl x.c.length 4 (chG x.c)]] ∧ Ex.size x.x < n ∧ VR.pre (2 : Int) x) fun n_1 => .all (fun (r : Bool × Int) => r.2 = Ev.g n_1.ev ∧ r.1 = if Ev.g n_1.ev = 0 then Ev.b n_1.ev else false) fun n_2 => .ite (!decide (n_2.2 = 0)) (.leaf (.ret [.str (Array.toList #[]), .int .i64 n_2.2] [.box [.int .u8 k, .str r, .str m, .int .i64 d, .sl s.length 5 (Ex.exG s)], .box [.sl f.length 3 (fxG f), .sl c.length 4 (chG c)]])) (.side ((0 : Int) ≤ 2 ∧ (2 : Int) < s.length) (.ite n_2.1 (.side ((0 : Int) ≤ 1 ∧ (1 : Int) < s.length) (.ex (fun (x : VR) => eqL [AV.agg [AV.int .u8 (Ex.kind (s.getD 1 Ex.nil)), AV.str (Ex.rat (s.getD 1 Ex.nil)), AV.str (Ex.name (s.getD 1 Ex.nil)), AV.int .i64 (Ex.date (s.getD 1 Ex.nil)), AV.sl (List.length (Ex.sub (s.getD 1 Ex.nil))) 5 (Ex.deep (s.getD 1 Ex.nil))], AV.int .i64 day, AV.agg [AV.sl f.length 3 (fxG f), AV.sl c.length 4 (chG c)]] [AV.agg [AV.int .u8 x.x.kind, AV.str x.x.rat, AV.str x.x.name, AV.int .i64 x.x.date, AV.sl x.x.sub.length 5 (Ex.exG x.x.sub)], AV.int .i64 x.day, AV.agg [AV.sl x.f.length 3 (fxG x.f), AV.sl x.c.length 4 (chG x.c)]] ∧ Ex.size x.x < n ∧ VR.pre (1 : Int) x) fun n => .all (fun (r : List UInt8 × Int) => r.2 = Ev.e n.ev ∧ r.1 = if Ev.e n.ev = 0 then Ev.v n.ev else []) fun n => .leaf (.ret [.str n.1, .int .i64 n.2] [.box [.int .u8 k, .str r, .str m, .int .i64 d, .sl s.length 5 (Ex.exG s)], .box [.sl f.length 3 (fxG f), .sl c.length 4 (chG c)], .box [.int .u8 (Ex.kind (s.getD 1 Ex.nil)), .str (Ex.rat (s.getD 1 Ex.nil)), .str (Ex.name (s.getD 1 Ex.nil)), .int .i64 (Ex.date (s.getD 1 Ex.nil)), .sl (List.length (Ex.sub (s.getD 1 Ex.nil))) 5 (Ex.deep (s.getD 1 Ex.nil))]]))) (.ex (fun (x : VR) => eqL [AV.agg [AV.int .u8 (Ex.kind (s.getD 2 Ex.nil)), AV.str (Ex.rat (s.getD 2 Ex.nil)), AV.str (Ex.name (s.getD 2 Ex.nil)), AV.int .i64 (Ex.date (s.getD 2 Ex.nil)), AV.sl (List.length (Ex.sub (s.getD 2 Ex.nil))) 5 (Ex.deep (s.getD 2 Ex.nil))], AV.int .i64 day, AV.agg [AV.sl f.length 3 (fxG f), AV.sl c.length 4 (chG c)]] [AV.agg [AV.int .u8 x.x.kind, AV.str x.x.rat, AV.str x.x.name, AV.int .i64 x.x.date, AV.sl x.x.sub.length 5 (Ex.exG x.x.sub)], AV.int .i64 x.day, AV.agg [AV.sl x.f.length 3 (fxG x.f), AV.sl x.c.length 4 (chG x.c)]] ∧ Ex.size x.x < n ∧ VR.pre (1 : Int) x) fun n => .all (fun (r : List UInt8 × Int) => r.2 = Ev.e n.ev ∧ r.1 = if Ev.e n.ev = 0 then Ev.v n.ev else []) fun n => .leaf (.ret [.str n.1, .int .i64 n.2] [.box [.int .u8 k, .str r, .str m, .int .i64 d, .sl s.length 5 (Ex.exG s)], .box [.sl f.length 3 (fxG f), .sl c.length 4 (chG c)], .box [.int .u8 (Ex.kind (s.getD 2 Ex.nil)), .str (Ex.rat (s.getD 2 Ex.nil)), .str (Ex.name (s.getD 2 Ex.nil)), .int .i64 (Ex.date (s.getD 2 Ex.nil)), .sl (List.length (Ex.sub (s.getD 2 Ex.nil))) 5 (Ex.deep (s.getD 2 Ex.nil))]])))))) (.side ((0 : Int) ≤ 0 ∧ (0 : Int) < s.length) (.ex (fun (x : VR) => eqL [AV.agg [AV.int .u8 (Ex.kind (s.getD 0 Ex.nil)), AV.str (Ex.rat (s.getD 0 Ex.nil)), AV.str (Ex.name (s.getD 0 Ex.nil)), AV.int .i64 (Ex.date (s.getD 0 Ex.nil)), AV.sl (List.length (Ex.sub (s.getD 0 Ex.nil))) 5 (Ex.deep (s.getD 0 Ex.nil))], AV.int .i64 day, AV.agg [AV.sl f.length 3 (fxG f), AV.sl c.length 4 (chG c)]] [AV.agg [AV.int .u8 x.x.kind, AV.str x.x.rat, AV.str x.x.name, AV.int .i64 x.x.date, AV.sl x.x.sub.length 5 (Ex.exG x.x.sub)], AV.int .i64 x.day, AV.agg [AV.sl x.f.length 3 (fxG x.f), AV.sl x.c.length 4 (chG x.c)]] ∧ Ex.size x.x < n ∧ VR.pre (1 : Int) x) fun n_1 => .all (fun (r : List UInt8 × Int) => r.2 = Ev.e n_1.ev ∧ r.1 = if Ev.e n_1.ev = 0 then Ev.v n_1.ev else []) fun n_2 => .ite (!decide (n_2.2 = 0)) (.leaf (.ret [.str (Array.toList #[]), .int .i64 n_2.2] [.box [.int .u8 k, .str r, .str m, .int .i64 d, .sl s.length 5 (Ex.exG s)], .box [.sl f.length 3 (fxG f), .sl c.length 4 (chG c)]])) (.side ((0 : Int) ≤ 1 ∧ (1 : Int) < s.length) (.ex (fun (x : VR) => eqL [AV.agg [AV.int .u8 (Ex.kind (s.getD 1 Ex.nil)), AV.str (Ex.rat (s.getD 1 Ex.nil)), AV.str (Ex.name (s.getD 1 Ex.nil)), AV.int .i64 (Ex.date (s.getD 1 Ex.nil)), AV.sl (List.length (Ex.sub (s.getD 1 Ex.nil))) 5 (Ex.deep (s.getD 1 Ex.nil))], AV.int .i64 day, AV.agg [AV.sl f.length 3 (fxG f), AV.sl c.length 4 (chG c)]] [AV.agg [AV.int .u8 x.x.kind, AV.str x.x.rat, AV.str x.x.name, AV.int .i64 x.x.date, AV.sl x.x.sub.length 5 (Ex.exG x.x.sub)], AV.int .i64 x.day, AV.agg [AV.sl x.f.length 3 (fxG x.f), AV.sl x.c.length 4 (chG x.c)]] ∧ Ex.size x.x < n ∧ VR.pre (1 : Int) x) fun n => .all (fun (r : List UInt8 × Int) => r.2 = Ev.e n.ev ∧ r.1 = if Ev.e n.ev = 0 then Ev.v n.ev else []) fun n => .ite (!decide (n.2 = 0)) (.leaf (.ret [.str (Array.toList #[]), .int .i64 n.2] [.box [.int .u8 k, .str r, .str m, .int .i64 d, .sl s.length 5 (Ex.exG s)], .box [.sl f.length 3 (fxG f), .sl c.length 4 (chG c)]])) (.ite (decide (k = 4)) (.ex (fun (x : List UInt8 × List UInt8) => eqL [AV.str n_2.1, AV.str n.1] [AV.str x.1, AV.str x.2] ∧ x.1.length < 549755813888 ∧ x.2.length < 549755813888) fun n => .all (fun (r : List UInt8 × Int) => r = addR n.1 n.2) fun n => .ite (!decide (n.2 = 0)) (.leaf (.ret [.str (Array.toList #[]), .int .i64 n.2] [.box [.int .u8 k, .str r, .str m, .int .i64 d, .sl s.length 5 (Ex.exG s)], .box [.sl f.length 3 (fxG f), .sl c.length 4 (chG c)]])) (.leaf (.ret [.str n.1, .int .i64 0] [.box [.int .u8 k, .str r, .str m, .int .i64 d, .sl s.length 5 (Ex.exG s)], .box [.sl f.length 3 (fxG f), .sl c.length 4 (chG c)]]))) (.ite (decide (k = 5)) (.ex (fun (x : List UInt8 × List UInt8) => eqL [AV.str n_2.1, AV.str n.1] [AV.str x.1, AV.str x.2] ∧ x.1.length < 274877906944 ∧ x.2.length < 274877906944) fun n => .all (fun (r : List UInt8 × Int) => r = subR n.1 n.2) fun n => .ite (!decide (n.2 = 0)) (.leaf (.ret [.str (Array.toList #[]), .int .i64 n.2] [.box [.int .u8 k, .str r, .str m, .int .i64 d, .sl s.length 5 (Ex.exG s)], .box [.sl f.length 3 (fxG f), .sl c.length 4 (chG c)]])) (.leaf (.ret [.str n.1, .int .i64 0] [.box [.int .u8 k, .str r, .str m, .int .i64 d, .sl s.length 5 (Ex.exG s)], .box [.sl f.length 3 (fxG f), .sl c.length 4 (chG c)]]))) (.ite (decide (k = 6)) (.ex (fun (x : List UInt8 × List UInt8) => eqL [AV.str n_2.1, AV.str n.1] [AV.str x.1, AV.str x.2] ∧ x.1.length < 549755813888 ∧ x.2.length < 549755813888) fun n => .all (fun (r : List UInt8 × Int) => r = mulR n.1 n.2) fun n => .ite (!decide (n.2 = 0)) (.leaf (.ret [.str (Array.toList #[]), .int .i64 n.2] [.box [.int .u8 k, .str r, .str m, .int .i64 d, .sl s.length 5 (Ex.exG s)], .box [.sl f.length 3 (fxG f), .sl c.length 4 (chG c)]])) (.leaf (.ret [.str n.1, .int .i64 0] [.box [.int .u8 k, .str r, .str m, .int .i64 d, .sl s.length 5 (Ex.exG s)], .box [.sl f.length 3 (fxG f), .sl c.length 4 (chG c)]]))) (.ex (fun (x : List UInt8 × List UInt8) => eqL [AV.str n_2.1, AV.str n.1] [AV.str x.1, AV.str x.2] ∧ x.1.length < 549755813888 ∧ x.2.length < 549755813888) fun n_3 => .all (fun (r : Int × Int) => r = cmpR n_3.1 n_3.2) fun n_4 => .ite (bif bif decide (k = 7) then decide (n_4.1 < 0) else false then true else bif decide (k = 8) then decide ((0 : Int) < n_4.1) else false) (.ite (!decide (n_4.2 = 0)) (.leaf (.ret [.str (Array.toList #[]), .int .i64 n_4.2] [.box [.int .u8 k, .str r, .str m, .int .i64 d, .sl s.length 5 (Ex.exG s)], .box [.sl f.length 3 (fxG f), .sl c.length 4 (chG c)]])) (.leaf (.ret [.str n.1, .int .i64 0] [.box [.int .u8 k, .str r, .str m, .int .i64 d, .sl s.length 5 (Ex.exG s)], .box [.sl f.length 3 (fxG f), .sl c.length 4 (chG c)]]))) (.ite (!decide (n_4.2 = 0)) (.leaf (.ret [.str (Array.toList #[]), .int .i64 n_4.2] [.box [.int .u8 k, .str r, .str m, .int .i64 d, .sl s.length 5 (Ex.exG s)], .box [.sl f.length 3 (fxG f), .sl c.length 4 (chG c)]])) (.leaf (.ret [.str n_2.1, .int .i64 0] [.box [.int .u8 k, .str r, .str m, .int .i64 d, .sl s.length 5 (Ex.exG s)], .box [.sl f.length 3 (fxG f), .sl c.length 4 (chG c)]]))))))))))))))) (by kernel_rfl) ?_
 simp only [Tree.holds, zd]
 have hev : (Ex.mk k r m d s).ev f day = evN f day k r m d (Ex.evs f day s) := by rw [Ex.ev]
 have hc := Ex.yz hs
 simp only [Ex.kind, Ex.sub, Ex.rat] at hc
 rw [Ex.size] at hn
 have z0 := fun g => Ex.z6 (s := s) (i := 0) g
 have z1 := fun g => Ex.z6 (s := s) (i := 1) g
 have z2 := fun g => Ex.z6 (s := s) (i := 2) g
 have fin : ∀ (t : List UInt8 × Int) (h : Heap), t.2 = ((Ex.mk k r m d s).ev f day).e → t.1 = (if ((Ex.mk k r m d s).ev f day).e = 0 then ((Ex.mk k r m d s).ev f day).v else []) → RetR (v5 fun k => k.x.size < n + 1 ∧ k.pre 1) 0 Q [.str t.1, .int .i64 t.2] h := fun t h g1 g2 => RetR.scal (hq0 t g1 g2) rfl (by simp [resV])
 have hfix : ∀ (x : List UInt8) (y : Int) (h : Heap), fixR f x y = (((Ex.mk k r m d s).ev f day).v, ((Ex.mk k r m d s).ev f day).e) → ∀ z, z = fixR f x y → RetR (v5 fun k => k.x.size < n + 1 ∧ k.pre 1) 0 Q [.str z.1, .int .i64 z.2] h := by
  rintro x y h e1 z rfl
  have e2 := congrArg Prod.snd e1
  have e3 := congrArg Prod.fst e1
  simp only at e2 e3
  refine fin _ h e2 ?_
  rw [← e2, ← e3]
  unfold fixR
  split
  ·rw [if_pos rfl]
  ·rw [if_neg (by decide)]
 have eEn : ∀ (x : List UInt8) (y : Int), eqL [AV.agg [AV.sl f.length 3 (fxG f), AV.sl c.length 4 (chG c)], .str x, .int .i64 y] [envA f c, .str x, .int .i64 y] := fun x y => ⟨⟨⟨rfl, rfl, za _ _ _⟩, ⟨rfl, rfl, za _ _ _⟩, trivial⟩, rfl, ⟨rfl, rfl⟩, trivial⟩
 rcases hc with ⟨rfl, hr⟩ | rfl | rfl | ⟨⟨k1, k2⟩, hl, hs0, hs1⟩ | ⟨rfl, hl, hs0, hs1, hs2⟩
 ·refine ⟨fun _ => ?_, fun h => (by cases h)⟩
  exact fin (r, 0) _ (by rw [hev]; rfl) (by rw [hev]; rfl)
 ·refine ⟨fun h => (by cases h), fun _ => ⟨fun _ => ?_, fun h => (by cases h)⟩⟩
  refine ⟨((f, c), (m, d)), ⟨eEn m d, hfl⟩, ⟨_, rfl⟩, ?_⟩
  exact hfix m d _ (by rw [hev]; rfl)
 ·refine ⟨fun h => (by cases h), fun _ => ⟨fun h => (by cases h), fun _ => ⟨fun _ => ?_, fun h => (by cases h)⟩⟩⟩
  refine ⟨((f, c), (m, day)), ⟨eEn m day, hfl⟩, ⟨_, rfl⟩, ?_⟩
  exact hfix m day _ (by rw [hev]; rfl)
 ·iterate 4 refine ⟨fun h => absurd (of_decide_eq_true h) (by omega), fun _ => ?_⟩
  have z0 := z0 (by omega)
  have z1 := z1 (by omega)
  have he : (((Ex.mk k r m d s).ev f day).v, ((Ex.mk k r m d s).ev f day).e) = ki [] ((s.getD 0 Ex.nil).ev f day) ((s.getD 1 Ex.nil).ev f day) (opR k) := by
   rw [hev]
   simp only [evN, valN]
   rw [if_neg (by omega), if_neg (by omega), if_neg (by omega), if_neg (by omega), Ex.zA (by omega), Ex.zA (by omega)]
  unfold ki at he
  refine ⟨⟨by decide, by omega⟩, fun _ => ⟨⟨s.getD 0 Ex.nil, day, f, c⟩, ⟨eqX3 _ _ _ _, by show (s.getD 0 Ex.nil).size < n; omega, hs0, hf, hfl⟩, v7 _, ?_⟩⟩
  rintro r0 ⟨g0, k0⟩
  replace g0 : r0.2 = ((s.getD 0 Ex.nil).ev f day).e := g0
  replace k0 : r0.1 = (if ((s.getD 0 Ex.nil).ev f day).e = 0 then ((s.getD 0 Ex.nil).ev f day).v else []) := k0
  refine ⟨fun h => ?_, fun h => ?_⟩
  ·have h : r0.2 ≠ 0 := by simpa using h
   rw [if_pos (by rw [← g0]; exact h)] at he
   have he2 : ((Ex.mk k r m d s).ev f day).e = r0.2 := by rw [g0]; exact congrArg Prod.snd he
   exact fin ([], r0.2) _ he2.symm (by rw [he2, if_neg h])
  have h3 : r0.2 = 0 := by simpa using h
  rw [← g0, if_pos h3] at k0
  rw [if_neg (by rw [← g0]; simpa using h3)] at he
  refine ⟨⟨by decide, by omega⟩, fun _ => ⟨⟨s.getD 1 Ex.nil, day, f, c⟩, ⟨eqX3 _ _ _ _, by show (s.getD 1 Ex.nil).size < n; omega, hs1, hf, hfl⟩, v7 _, ?_⟩⟩
  rintro r1 ⟨g1, k1'⟩
  replace g1 : r1.2 = ((s.getD 1 Ex.nil).ev f day).e := g1
  replace k1' : r1.1 = (if ((s.getD 1 Ex.nil).ev f day).e = 0 then ((s.getD 1 Ex.nil).ev f day).v else []) := k1'
  refine ⟨fun h => ?_, fun h => ?_⟩
  ·have h : r1.2 ≠ 0 := by simpa using h
   rw [if_pos (by rw [← g1]; exact h)] at he
   have he2 : ((Ex.mk k r m d s).ev f day).e = r1.2 := by rw [g1]; exact congrArg Prod.snd he
   exact fin ([], r1.2) _ he2.symm (by rw [he2, if_neg h])
  have h4 : r1.2 = 0 := by simpa using h
  rw [← g1, if_pos h4] at k1'
  rw [if_neg (by rw [← g1]; simpa using h4), ← k0, ← k1'] at he
  have q0 : errR r0.1 = 0 := by rw [k0]; exact Ex.vX hf day _ hs0 (by rw [← g0]; exact h3)
  have q1 : errR r1.1 = 0 := by rw [k1']; exact Ex.vX hf day _ hs1 (by rw [← g1]; exact h4)
  have l0 := jO q0
  have l1 := jO q1
  have opfin : ∀ (z : List UInt8 × Int), ((Ex.mk k r m d s).ev f day).v = z.1 → ((Ex.mk k r m d s).ev f day).e = z.2 → ∀ {h h' : Heap}, ((!decide (z.2 = 0)) = true → RetR (v5 fun k => k.x.size < n + 1 ∧ k.pre 1) 0 Q [.str [], .int .i64 z.2] h) ∧ ((!decide (z.2 = 0)) = false → RetR (v5 fun k => k.x.size < n + 1 ∧ k.pre 1) 0 Q [.str z.1, .int .i64 0] h') := by
   intro z e1 e2 h h'
   refine ⟨fun g => ?_, fun g => ?_⟩
   ·have g : z.2 ≠ 0 := by simpa using g
    exact fin ([], z.2) _ e2.symm (by rw [e2, if_neg g])
   ·have g : z.2 = 0 := by simpa using g
    exact fin (z.1, 0) _ (by rw [e2, g]) (by rw [e2, if_pos g, e1])
  refine ⟨fun hk => ?_, fun hk => ?_⟩
  ·have hk : k = 4 := of_decide_eq_true hk
   subst hk
   refine ⟨(r0.1, r1.1), ⟨⟨rfl, rfl, trivial⟩, by show r0.1.length < _; omega, by show r1.1.length < _; omega⟩, ⟨_, rfl⟩, ?_⟩
   intro z hz
   have ho : opR 4 r0.1 r1.1 = addR r0.1 r1.1 := rfl
   rw [ho] at he
   have he1 : ((Ex.mk 4 r m d s).ev f day).v = z.1 := by rw [hz]; exact congrArg Prod.fst he
   have he2 : ((Ex.mk 4 r m d s).ev f day).e = z.2 := by rw [hz]; exact congrArg Prod.snd he
   exact opfin z he1 he2
  have hk : ¬ k = 4 := of_decide_eq_false hk
  refine ⟨fun hk => ?_, fun hk => ?_⟩
  ·have hk : k = 5 := of_decide_eq_true hk
   subst hk
   refine ⟨(r0.1, r1.1), ⟨⟨rfl, rfl, trivial⟩, by show r0.1.length < _; omega, by show r1.1.length < _; omega⟩, ⟨_, rfl⟩, ?_⟩
   intro z hz
   have ho : opR 5 r0.1 r1.1 = subR r0.1 r1.1 := rfl
   rw [ho] at he
   have he1 : ((Ex.mk 5 r m d s).ev f day).v = z.1 := by rw [hz]; exact congrArg Prod.fst he
   have he2 : ((Ex.mk 5 r m d s).ev f day).e = z.2 := by rw [hz]; exact congrArg Prod.snd he
   exact opfin z he1 he2
  have hk : ¬ k = 5 := of_decide_eq_false hk
  refine ⟨fun hk => ?_, fun hk => ?_⟩
  ·have hk : k = 6 := of_decide_eq_true hk
   subst hk
   refine ⟨(r0.1, r1.1), ⟨⟨rfl, rfl, trivial⟩, by show r0.1.length < _; omega, by show r1.1.length < _; omega⟩, ⟨_, rfl⟩, ?_⟩
   intro z hz
   have ho : opR 6 r0.1 r1.1 = mulR r0.1 r1.1 := rfl
   rw [ho] at he
   have he1 : ((Ex.mk 6 r m d s).ev f day).v = z.1 := by rw [hz]; exact congrArg Prod.fst he
   have he2 : ((Ex.mk 6 r m d s).ev f day).e = z.2 := by rw [hz]; exact congrArg Prod.snd he
   exact opfin z he1 he2
  have hk : ¬ k = 6 := of_decide_eq_false hk
  refine ⟨(r0.1, r1.1), ⟨⟨rfl, rfl, trivial⟩, by show r0.1.length < _; omega, by show r1.1.length < _; omega⟩, ⟨_, rfl⟩, ?_⟩
  intro z hz
  simp only at hz
  have ho : opR k r0.1 r1.1 = jc k r0.1 r1.1 := by unfold opR; rw [if_neg (by assumption), if_neg (by assumption), if_neg (by assumption)]
  rw [ho] at he
  obtain ⟨sw1, sw2⟩ := Ug q0 q1
  have hp : jc k r0.1 r1.1 = if z.2 ≠ 0 then ([], z.2) else (if (k = 7 ∧ z.1 < 0) ∨ (k = 8 ∧ 0 < z.1) then r1.1 else r0.1, 0) := by
   rw [hz]
   unfold jc
   by_cases h7 : k = 7
   ·rw [if_pos h7]
    by_cases g : (cmpR r0.1 r1.1).2 = 0
    ·have n0 : ¬ (cmpR r0.1 r1.1).2 ≠ 0 := by rw [g]; simp
     rw [if_neg n0, if_neg n0]
     congr 1
     by_cases g2 : (cmpR r0.1 r1.1).1 < 0
     ·rw [if_pos g2, if_pos (.inl ⟨h7, g2⟩)]
     ·rw [if_neg g2, if_neg (by omega)]
    ·rw [if_pos g, if_pos g]
   ·have h8 : k = 8 := by omega
    rw [if_neg h7, sw1]
    by_cases g : (cmpR r0.1 r1.1).2 = 0
    ·have n0 : ¬ (cmpR r0.1 r1.1).2 ≠ 0 := by rw [g]; simp
     rw [if_neg n0, if_neg n0]
     congr 1
     by_cases g2 : 0 < (cmpR r0.1 r1.1).1
     ·rw [if_pos (sw2.2 g2), if_pos (.inr ⟨h8, g2⟩)]
     ·rw [if_neg (fun g3 => g2 (sw2.1 g3)), if_neg (by omega)]
    ·rw [if_pos g, if_pos g]
  have hcond : (bif bif decide (k = 7) then decide (z.1 < 0) else false then true else bif decide (k = 8) then decide (0 < z.1) else false) = decide ((k = 7 ∧ z.1 < 0) ∨ (k = 8 ∧ 0 < z.1)) := by
   by_cases h7 : k = 7
   ·subst h7; by_cases g : z.1 < 0 <;> simp [g]
   ·by_cases h8 : k = 8
    ·subst h8; simp
    ·simp [h7, h8]
  rw [hcond]
  rw [hp] at he
  have two : ∀ (w : List UInt8), (if (k = 7 ∧ z.1 < 0) ∨ (k = 8 ∧ 0 < z.1) then r1.1 else r0.1) = w → ∀ {h h' : Heap}, ((!decide (z.2 = 0)) = true → RetR (v5 fun k => k.x.size < n + 1 ∧ k.pre 1) 0 Q [.str [], .int .i64 z.2] h) ∧ ((!decide (z.2 = 0)) = false → RetR (v5 fun k => k.x.size < n + 1 ∧ k.pre 1) 0 Q [.str w, .int .i64 0] h') := by
   intro w hw h h'
   rw [hw] at he
   refine ⟨fun g => ?_, fun g => ?_⟩
   ·have g : z.2 ≠ 0 := by simpa using g
    rw [if_pos g] at he
    have he2 := congrArg Prod.snd he
    exact fin ([], z.2) _ he2.symm (by have he2 : ((Ex.mk k r m d s).ev f day).e = z.2 := he2; rw [he2, if_neg g])
   ·have g : z.2 = 0 := by simpa using g
    rw [if_neg (by rw [g]; simp)] at he
    have he2 : ((Ex.mk k r m d s).ev f day).e = 0 := congrArg Prod.snd he
    have he1 : ((Ex.mk k r m d s).ev f day).v = w := congrArg Prod.fst he
    exact fin (w, 0) _ he2.symm (by rw [he2, if_pos rfl, he1])
  refine ⟨fun g => ?_, fun g => ?_⟩
  ·exact two r1.1 (if_pos (of_decide_eq_true g))
  ·exact two r0.1 (if_neg (of_decide_eq_false g))
 ·iterate 3 refine ⟨fun h => (by cases h), fun _ => ?_⟩
  refine ⟨fun _ => ?_, fun h => (by cases h)⟩
  have z0 := z0 (by omega)
  have z1 := z1 (by omega)
  have z2 := z2 (by omega)
  have he : (((Ex.mk 9 r m d s).ev f day).v, ((Ex.mk 9 r m d s).ev f day).e) = if ((s.getD 0 Ex.nil).ev f day).g ≠ 0 then ([], ((s.getD 0 Ex.nil).ev f day).g) else if ((s.getD 0 Ex.nil).ev f day).b then (((s.getD 1 Ex.nil).ev f day).v, ((s.getD 1 Ex.nil).ev f day).e) else (((s.getD 2 Ex.nil).ev f day).v, ((s.getD 2 Ex.nil).ev f day).e) := by
   rw [hev]
   simp only [evN, valN]
   rw [if_neg (by decide), if_neg (by decide), if_neg (by decide), if_pos trivial, Ex.zA (by omega), Ex.zA (by omega), Ex.zA (by omega)]
  refine ⟨⟨by decide, by omega⟩, fun _ => ⟨⟨s.getD 0 Ex.nil, day, f, c⟩, ⟨eqX3 _ _ _ _, by show (s.getD 0 Ex.nil).size < n; omega, hs0, hf, hfl⟩, yj _, ?_⟩⟩
  rintro r0 ⟨g0, k0⟩
  replace g0 : r0.2 = ((s.getD 0 Ex.nil).ev f day).g := g0
  replace k0 : r0.1 = (if ((s.getD 0 Ex.nil).ev f day).g = 0 then ((s.getD 0 Ex.nil).ev f day).b else false) := k0
  refine ⟨fun h => ?_, fun h => ?_⟩
  ·have h : r0.2 ≠ 0 := by simpa using h
   rw [if_pos (by rw [← g0]; exact h)] at he
   have he2 : ((Ex.mk 9 r m d s).ev f day).e = r0.2 := by rw [g0]; exact congrArg Prod.snd he
   exact fin ([], r0.2) _ he2.symm (by rw [he2, if_neg h])
  have h3 : r0.2 = 0 := by simpa using h
  rw [← g0, if_pos h3] at k0
  rw [if_neg (by rw [← g0]; simpa using h3), ← k0] at he
  refine ⟨⟨by decide, by omega⟩, fun _ => ⟨fun hb => ?_, fun hb => ?_⟩⟩
  ·rw [if_pos hb] at he
   refine ⟨⟨by decide, by omega⟩, fun _ => ⟨⟨s.getD 1 Ex.nil, day, f, c⟩, ⟨eqX3 _ _ _ _, by show (s.getD 1 Ex.nil).size < n; omega, hs1, hf, hfl⟩, v7 _, ?_⟩⟩
   rintro t ⟨t1, t2⟩
   replace t1 : t.2 = ((s.getD 1 Ex.nil).ev f day).e := t1
   replace t2 : t.1 = (if ((s.getD 1 Ex.nil).ev f day).e = 0 then ((s.getD 1 Ex.nil).ev f day).v else []) := t2
   exact fin t _ (t1.trans (congrArg Prod.snd he).symm) (by rw [t2, (show ((Ex.mk 9 r m d s).ev f day).e = _ from congrArg Prod.snd he), (show ((Ex.mk 9 r m d s).ev f day).v = _ from congrArg Prod.fst he)])
  ·rw [if_neg (by rw [hb]; decide)] at he
   refine ⟨⟨s.getD 2 Ex.nil, day, f, c⟩, ⟨eqX3 _ _ _ _, by show (s.getD 2 Ex.nil).size < n; omega, hs2, hf, hfl⟩, v7 _, ?_⟩
   rintro t ⟨t1, t2⟩
   replace t1 : t.2 = ((s.getD 2 Ex.nil).ev f day).e := t1
   replace t2 : t.1 = (if ((s.getD 2 Ex.nil).ev f day).e = 0 then ((s.getD 2 Ex.nil).ev f day).v else []) := t2
   exact fin t _ (t1.trans (congrArg Prod.snd he).symm) (by rw [t2, (show ((Ex.mk 9 r m d s).ev f day).e = _ from congrArg Prod.snd he), (show ((Ex.mk 9 r m d s).ev f day).v = _ from congrArg Prod.fst he)])
theorem XF : zc Tryz.prog 27 (ue fun k => k.x.size < n + 1 ∧ k.pre 2) := by
 refine ze (fn := Tryz.f27) (c := Tryz.f27.body.getD .skip) rfl rfl rfl fun k hk O w0 Q hq => ?_
 obtain ⟨⟨k, r, m, d, s⟩, day, f, c⟩ := k
 obtain ⟨hn, hs, hf, hfl⟩ := hk
 simp only at hn hs hf hfl
 have hq0 : ∀ t : Bool × Int, t.2 = ((Ex.mk k r m d s).ev f day).g → t.1 = (if ((Ex.mk k r m d s).ev f day).g = 0 then ((Ex.mk k r m d s).ev f day).b else false) → Q (.tup [.bool t.1, .int .i64 t.2], []) := fun t g1 g2 => hq t ⟨g1, g2⟩
 clear hq
 refine zb.run hmix (zax h1 h2) [] 400 (T := .ite (decide ((13 : Int) ≤ k)) (.side ((0 : Int) ≤ 0 ∧ (0 : Int) < s.length) (.ex (fun (x : VR) => eqL [AV.agg [AV.int .u8 (Ex.kind (s.getD 0 Ex.nil)), AV.str (Ex.rat (s.getD 0 Ex.nil)), AV.str (Ex.name (s.getD 0 Ex.nil)), AV.int .i64 (Ex.date (s.getD 0 Ex.nil)), AV.sl (List.length (Ex.sub (s.getD 0 Ex.nil))) 5 (Ex.deep (s.getD 0 Ex.nil))], AV.int .i64 day, AV.agg [AV.sl f.length 3 (fxG f), AV.sl c.length 4 (chG c)]] [AV.agg [AV.int .u8 x.x.kind, AV.str x.x.rat, AV.str x.x.name, AV.int .i64 x.x.date, AV.sl x.x.sub.length 5 (Ex.exG x.x.sub)], AV.int .i64 x.day, AV.agg [AV.sl x.f.length 3 (fxG x.f), AV.sl x.c.length 4 (chG x.c)]] ∧ Ex.size x.x < n ∧ VR.pre (2 : Int) x) fun n_1 => .all (fun (r : Bool × Int) => r.2 = Ev.g n_1.ev ∧ r.1 = if Ev.g n_1.ev = 0 then Ev.b n_1.ev else false) fun n_2 => .ite (!decide (n_2.2 = 0)) (.leaf (.ret [.bool false, .int .i64 n_2.2] [.box [.int .u8 k, .str r, .str m, .int .i64 d, .sl s.length 5 (Ex.exG s)], .box [.sl f.length 3 (fxG f), .sl c.length 4 (chG c)]])) (.ite (decide (k = 15)) (.leaf (.ret [.bool !Prod.fst n_2, .int .i64 0] [.box [.int .u8 k, .str r, .str m, .int .i64 d, .sl s.length 5 (Ex.exG s)], .box [.sl f.length 3 (fxG f), .sl c.length 4 (chG c)]])) (.ite (n_2.1 == decide (k = 14)) (.leaf (.ret [.bool n_2.1, .int .i64 0] [.box [.int .u8 k, .str r, .str m, .int .i64 d, .sl s.length 5 (Ex.exG s)], .box [.sl f.length 3 (fxG f), .sl c.length 4 (chG c)]])) (.side ((0 : Int) ≤ 1 ∧ (1 : Int) < s.length) (.ex (fun (x : VR) => eqL [AV.agg [AV.int .u8 (Ex.kind (s.getD 1 Ex.nil)), AV.str (Ex.rat (s.getD 1 Ex.nil)), AV.str (Ex.name (s.getD 1 Ex.nil)), AV.int .i64 (Ex.date (s.getD 1 Ex.nil)), AV.sl (List.length (Ex.sub (s.getD 1 Ex.nil))) 5 (Ex.deep (s.getD 1 Ex.nil))], AV.int .i64 day, AV.agg [AV.sl f.length 3 (fxG f), AV.sl c.length 4 (chG c)]] [AV.agg [AV.int .u8 x.x.kind, AV.str x.x.rat, AV.str x.x.name, AV.int .i64 x.x.date, AV.sl x.x.sub.length 5 (Ex.exG x.x.sub)], AV.int .i64 x.day, AV.agg [AV.sl x.f.length 3 (fxG x.f), AV.sl x.c.length 4 (chG x.c)]] ∧ Ex.size x.x < n ∧ VR.pre (2 : Int) x) fun n => .all (fun (r : Bool × Int) => r.2 = Ev.g n.ev ∧ r.1 = if Ev.g n.ev = 0 then Ev.b n.ev else false) fun n => .leaf (.ret [.bool n.1, .int .i64 n.2] [.box [.int .u8 k, .str r, .str m, .int .i64 d, .sl s.length 5 (Ex.exG s)], .box [.sl f.length 3 (fxG f), .sl c.length 4 (chG c)]]))))))) (.side ((0 : Int) ≤ 0 ∧ (0 : Int) < s.length) (.ex (fun (x : VR) => eqL [AV.agg [AV.int .u8 (Ex.kind (s.getD 0 Ex.nil)), AV.str (Ex.rat (s.getD 0 Ex.nil)), AV.str (Ex.name (s.getD 0 Ex.nil)), AV.int .i64 (Ex.date (s.getD 0 Ex.nil)), AV.sl (List.length (Ex.sub (s.getD 0 Ex.nil))) 5 (Ex.deep (s.getD 0 Ex.nil))], AV.int .i64 day, AV.agg [AV.sl f.length 3 (fxG f), AV.sl c.length 4 (chG c)]] [AV.agg [AV.int .u8 x.x.kind, AV.str x.x.rat, AV.str x.x.name, AV.int .i64 x.x.date, AV.sl x.x.sub.length 5 (Ex.exG x.x.sub)], AV.int .i64 x.day, AV.agg [AV.sl x.f.length 3 (fxG x.f), AV.sl x.c.length 4 (chG x.c)]] ∧ Ex.size x.x < n ∧ VR.pre (1 : Int) x) fun n_1 => .all (fun (r : List UInt8 × Int) => r.2 = Ev.e n_1.ev ∧ r.1 = if Ev.e n_1.ev = 0 then Ev.v n_1.ev else []) fun n_2 => .ite (!decide (n_2.2 = 0)) (.leaf (.ret [.bool false, .int .i64 n_2.2] [.box [.int .u8 k, .str r, .str m, .int .i64 d, .sl s.length 5 (Ex.exG s)], .box [.sl f.length 3 (fxG f), .sl c.length 4 (chG c)]])) (.side ((0 : Int) ≤ 1 ∧ (1 : Int) < s.length) (.ex (fun (x : VR) => eqL [AV.agg [AV.int .u8 (Ex.kind (s.getD 1 Ex.nil)), AV.str (Ex.rat (s.getD 1 Ex.nil)), AV.str (Ex.name (s.getD 1 Ex.nil)), AV.int .i64 (Ex.date (s.getD 1 Ex.nil)), AV.sl (List.length (Ex.sub (s.getD 1 Ex.nil))) 5 (Ex.deep (s.getD 1 Ex.nil))], AV.int .i64 day, AV.agg [AV.sl f.length 3 (fxG f), AV.sl c.length 4 (chG c)]] [AV.agg [AV.int .u8 x.x.kind, AV.str x.x.rat, AV.str x.x.name, AV.int .i64 x.x.date, AV.sl x.x.sub.length 5 (Ex.exG x.x.sub)], AV.int .i64 x.day, AV.agg [AV.sl x.f.length 3 (fxG x.f), AV.sl x.c.length 4 (chG x.c)]] ∧ Ex.size x.x < n ∧ VR.pre (1 : Int) x) fun n => .all (fun (r : List UInt8 × Int) => r.2 = Ev.e n.ev ∧ r.1 = if Ev.e n.ev = 0 then Ev.v n.ev else []) fun n => .ite (!decide (n.2 = 0)) (.leaf (.ret [.bool false, .int .i64 n.2] [.box [.int .u8 k, .str r, .str m, .int .i64 d, .sl s.length 5 (Ex.exG s)], .box [.sl f.length 3 (fxG f), .sl c.length 4 (chG c)]])) (.ex (fun (x : List UInt8 × List UInt8) => eqL [AV.str n_2.1, AV.str n.1] [AV.str x.1, AV.str x.2] ∧ x.1.length < 549755813888 ∧ x.2.length < 549755813888) fun n => .all (fun (r : Int × Int) => r = cmpR n.1 n.2) fun n => .ite (!decide (n.2 = 0)) (.leaf (.ret [.bool false, .int .i64 n.2] [.box [.int .u8 k, .str r, .str m, .int .i64 d, .sl s.length 5 (Ex.exG s)], .box [.sl f.length 3 (fxG f), .sl c.length 4 (chG c)]])) (.leaf (.ret [.bool (bif bif decide (k = 11) then decide (n.1 < 0) else false then true else bif decide (k = 12) then decide (n.1 = 0) else false), .int .i64 0] [.box [.int .u8 k, .str r, .str m, .int .i64 d, .sl s.length 5 (Ex.exG s)], .box [.sl f.length 3 (fxG f), .sl c.length 4 (chG c)]])))))))) (by kernel_rfl) ?_
 simp only [Tree.holds, zd]
 have hev : (Ex.mk k r m d s).ev f day = evN f day k r m d (Ex.evs f day s) := by rw [Ex.ev]
 have hc := Ex.yX hs
 simp only [Ex.kind, Ex.sub, Ex.rat] at hc
 rw [Ex.size] at hn
 have z0 := fun g => Ex.z6 (s := s) (i := 0) g
 have z1 := fun g => Ex.z6 (s := s) (i := 1) g
 have fin : ∀ (t : Bool × Int) (h : Heap), t.2 = ((Ex.mk k r m d s).ev f day).g → t.1 = (if ((Ex.mk k r m d s).ev f day).g = 0 then ((Ex.mk k r m d s).ev f day).b else false) → RetR (ue fun k => k.x.size < n + 1 ∧ k.pre 2) 0 Q [.bool t.1, .int .i64 t.2] h := fun t h g1 g2 => RetR.scal (hq0 t g1 g2) rfl (by simp [resV])
 rcases hc with ⟨hk, hl, hs0, hs1⟩ | ⟨hk, hl, hs0, hs1⟩ | ⟨rfl, hl, hs0⟩
 ·refine ⟨fun h => absurd (of_decide_eq_true h) (by omega), fun _ => ?_⟩
  have z0 := z0 (by omega)
  have z1 := z1 (by omega)
  have he : (((Ex.mk k r m d s).ev f day).b, ((Ex.mk k r m d s).ev f day).g) = ki false ((s.getD 0 Ex.nil).ev f day) ((s.getD 1 Ex.nil).ev f day) (uM k) := by
   rw [hev]
   simp only [evN, hldN]
   rw [if_neg (by omega), Ex.zA (by omega), Ex.zA (by omega)]
  unfold ki at he
  refine ⟨⟨by decide, by omega⟩, fun _ => ⟨⟨s.getD 0 Ex.nil, day, f, c⟩, ⟨eqX3 _ _ _ _, by show (s.getD 0 Ex.nil).size < n; omega, hs0, hf, hfl⟩, v7 _, ?_⟩⟩
  rintro r0 ⟨g0, k0⟩
  replace g0 : r0.2 = ((s.getD 0 Ex.nil).ev f day).e := g0
  replace k0 : r0.1 = (if ((s.getD 0 Ex.nil).ev f day).e = 0 then ((s.getD 0 Ex.nil).ev f day).v else []) := k0
  refine ⟨fun h => ?_, fun h => ?_⟩
  ·have h : r0.2 ≠ 0 := by simpa using h
   rw [if_pos (by rw [← g0]; exact h)] at he
   have he2 : ((Ex.mk k r m d s).ev f day).g = r0.2 := by rw [g0]; exact congrArg Prod.snd he
   exact fin (false, r0.2) _ he2.symm (by rw [he2, if_neg h])
  have h3 : r0.2 = 0 := by simpa using h
  rw [← g0, if_pos h3] at k0
  rw [if_neg (by rw [← g0]; simpa using h3)] at he
  refine ⟨⟨by decide, by omega⟩, fun _ => ⟨⟨s.getD 1 Ex.nil, day, f, c⟩, ⟨eqX3 _ _ _ _, by show (s.getD 1 Ex.nil).size < n; omega, hs1, hf, hfl⟩, v7 _, ?_⟩⟩
  rintro r1 ⟨g1, k1'⟩
  replace g1 : r1.2 = ((s.getD 1 Ex.nil).ev f day).e := g1
  replace k1' : r1.1 = (if ((s.getD 1 Ex.nil).ev f day).e = 0 then ((s.getD 1 Ex.nil).ev f day).v else []) := k1'
  refine ⟨fun h => ?_, fun h => ?_⟩
  ·have h : r1.2 ≠ 0 := by simpa using h
   rw [if_pos (by rw [← g1]; exact h)] at he
   have he2 : ((Ex.mk k r m d s).ev f day).g = r1.2 := by rw [g1]; exact congrArg Prod.snd he
   exact fin (false, r1.2) _ he2.symm (by rw [he2, if_neg h])
  have h4 : r1.2 = 0 := by simpa using h
  rw [← g1, if_pos h4] at k1'
  rw [if_neg (by rw [← g1]; simpa using h4), ← k0, ← k1'] at he
  have q0 : errR r0.1 = 0 := by rw [k0]; exact Ex.vX hf day _ hs0 (by rw [← g0]; exact h3)
  have q1 : errR r1.1 = 0 := by rw [k1']; exact Ex.vX hf day _ hs1 (by rw [← g1]; exact h4)
  have l0 := jO q0
  have l1 := jO q1
  refine ⟨(r0.1, r1.1), ⟨⟨rfl, rfl, trivial⟩, by show r0.1.length < _; omega, by show r1.1.length < _; omega⟩, ⟨_, rfl⟩, ?_⟩
  intro z hz
  simp only at hz
  unfold uM at he
  rw [← hz] at he
  refine ⟨fun g => ?_, fun g => ?_⟩
  ·have g : z.2 ≠ 0 := by simpa using g
   rw [if_pos g] at he
   have he2 : ((Ex.mk k r m d s).ev f day).g = z.2 := congrArg Prod.snd he
   exact fin (false, z.2) _ he2.symm (by rw [he2, if_neg g])
  ·have g : z.2 = 0 := by simpa using g
   have n0 : ¬ z.2 ≠ 0 := by rw [g]; simp
   rw [if_neg n0] at he
   have he2 : ((Ex.mk k r m d s).ev f day).g = 0 := congrArg Prod.snd he
   have he1 : ((Ex.mk k r m d s).ev f day).b = (if k = 11 then decide (z.1 < 0) else decide (z.1 = 0)) := congrArg Prod.fst he
   refine fin (_, 0) _ he2.symm ?_
   rw [he2, if_pos rfl, he1]
   rcases hk with rfl | rfl
   ·cases decide (z.1 < 0) <;> rfl
   ·rfl
 ·refine ⟨fun _ => ?_, fun h => absurd (of_decide_eq_false h) (by omega)⟩
  have z0 := z0 (by omega)
  have z1 := z1 (by omega)
  have he : (((Ex.mk k r m d s).ev f day).b, ((Ex.mk k r m d s).ev f day).g) = if ((s.getD 0 Ex.nil).ev f day).g ≠ 0 then (false, ((s.getD 0 Ex.nil).ev f day).g) else if ((s.getD 0 Ex.nil).ev f day).b = decide (k = 14) then (((s.getD 0 Ex.nil).ev f day).b, 0) else (((s.getD 1 Ex.nil).ev f day).b, ((s.getD 1 Ex.nil).ev f day).g) := by
   rw [hev]
   simp only [evN, hldN]
   rw [if_pos (by omega), if_neg (show ¬ k = 15 by omega), Ex.zA (by omega), Ex.zA (by omega)]
  refine ⟨⟨by decide, by omega⟩, fun _ => ⟨⟨s.getD 0 Ex.nil, day, f, c⟩, ⟨eqX3 _ _ _ _, by show (s.getD 0 Ex.nil).size < n; omega, hs0, hf, hfl⟩, yj _, ?_⟩⟩
  rintro r0 ⟨g0, k0⟩
  replace g0 : r0.2 = ((s.getD 0 Ex.nil).ev f day).g := g0
  replace k0 : r0.1 = (if ((s.getD 0 Ex.nil).ev f day).g = 0 then ((s.getD 0 Ex.nil).ev f day).b else false) := k0
  refine ⟨fun h => ?_, fun h => ?_⟩
  ·have h : r0.2 ≠ 0 := by simpa using h
   rw [if_pos (by rw [← g0]; exact h)] at he
   have he2 : ((Ex.mk k r m d s).ev f day).g = r0.2 := by rw [g0]; exact congrArg Prod.snd he
   exact fin (false, r0.2) _ he2.symm (by rw [he2, if_neg h])
  have h3 : r0.2 = 0 := by simpa using h
  rw [← g0, if_pos h3] at k0
  rw [if_neg (by rw [← g0]; simpa using h3), ← k0] at he
  refine ⟨fun h => absurd (of_decide_eq_true h) (by omega), fun _ => ⟨fun hb => ?_, fun hb => ?_⟩⟩
  ·have hb : r0.1 = decide (k = 14) := by simpa using hb
   rw [if_pos hb] at he
   have he2 : ((Ex.mk k r m d s).ev f day).g = 0 := congrArg Prod.snd he
   have he1 : ((Ex.mk k r m d s).ev f day).b = r0.1 := (Prod.mk.inj he).1
   exact fin (r0.1, 0) _ he2.symm (by rw [he2, if_pos rfl, he1])
  ·have hb : ¬ r0.1 = decide (k = 14) := by
    intro h5
    rw [h5] at hb
    simp at hb
   rw [if_neg hb] at he
   refine ⟨⟨by decide, by omega⟩, fun _ => ⟨⟨s.getD 1 Ex.nil, day, f, c⟩, ⟨eqX3 _ _ _ _, by show (s.getD 1 Ex.nil).size < n; omega, hs1, hf, hfl⟩, yj _, ?_⟩⟩
   rintro t ⟨t1, t2⟩
   replace t1 : t.2 = ((s.getD 1 Ex.nil).ev f day).g := t1
   replace t2 : t.1 = (if ((s.getD 1 Ex.nil).ev f day).g = 0 then ((s.getD 1 Ex.nil).ev f day).b else false) := t2
   exact fin t _ (t1.trans (congrArg Prod.snd he).symm) (by rw [t2, (show ((Ex.mk k r m d s).ev f day).g = _ from congrArg Prod.snd he), (show ((Ex.mk k r m d s).ev f day).b = _ from congrArg Prod.fst he)])
 ·refine ⟨fun _ => ?_, fun h => (by cases h)⟩
  have z0 := z0 (by omega)
  have he : (((Ex.mk 15 r m d s).ev f day).b, ((Ex.mk 15 r m d s).ev f day).g) = if ((s.getD 0 Ex.nil).ev f day).g ≠ 0 then (false, ((s.getD 0 Ex.nil).ev f day).g) else (!((s.getD 0 Ex.nil).ev f day).b, 0) := by
   rw [hev]
   simp only [evN, hldN]
   rw [if_pos (by decide), if_pos trivial, Ex.zA (by omega)]
  refine ⟨⟨by decide, by omega⟩, fun _ => ⟨⟨s.getD 0 Ex.nil, day, f, c⟩, ⟨eqX3 _ _ _ _, by show (s.getD 0 Ex.nil).size < n; omega, hs0, hf, hfl⟩, yj _, ?_⟩⟩
  rintro r0 ⟨g0, k0⟩
  replace g0 : r0.2 = ((s.getD 0 Ex.nil).ev f day).g := g0
  replace k0 : r0.1 = (if ((s.getD 0 Ex.nil).ev f day).g = 0 then ((s.getD 0 Ex.nil).ev f day).b else false) := k0
  refine ⟨fun h => ?_, fun h => ⟨fun _ => ?_, fun h => (by cases h)⟩⟩
  ·have h : r0.2 ≠ 0 := by simpa using h
   rw [if_pos (by rw [← g0]; exact h)] at he
   have he2 : ((Ex.mk 15 r m d s).ev f day).g = r0.2 := by rw [g0]; exact congrArg Prod.snd he
   exact fin (false, r0.2) _ he2.symm (by rw [he2, if_neg h])
  ·have h3 : r0.2 = 0 := by simpa using h
   rw [← g0, if_pos h3] at k0
   rw [if_neg (by rw [← g0]; simpa using h3), ← k0] at he
   have he2 : ((Ex.mk 15 r m d s).ev f day).g = 0 := congrArg Prod.snd he
   have he1 : ((Ex.mk 15 r m d s).ev f day).b = !r0.1 := congrArg Prod.fst he
   exact fin (!r0.1, 0) _ he2.symm (by rw [he2, if_pos rfl, he1])
end
theorem XS {X R Y S : Type} {P : Program} {g h : Nat} {fr fr' : Bool} {inp : X → List AV} {pre : X → Prop} {post : X → R → Prop} {out : X → R → AV × Heap} {inp' : Y → List AV} {pre' : Y → Prop} {post' : Y → S → Prop} {out' : Y → S → AV × Heap} (μ : X → Nat) (ν : Y → Nat)
  (step : ∀ n, zc P g (ctrP fr inp (fun x => μ x < n ∧ pre x) post out) → zc P h (ctrP fr' inp' (fun y => ν y < n ∧ pre' y) post' out') →
   zc P g (ctrP fr inp (fun x => μ x < n + 1 ∧ pre x) post out) ∧ zc P h (ctrP fr' inp' (fun y => ν y < n + 1 ∧ pre' y) post' out')) :
  zc P g (ctrP fr inp pre post out) ∧ zc P h (ctrP fr' inp' pre' post' out') := by
 have all : ∀ n, zc P g (ctrP fr inp (fun x => μ x < n ∧ pre x) post out) ∧ zc P h (ctrP fr' inp' (fun y => ν y < n ∧ pre' y) post' out') := by
  intro n
  induction n with
  | zero =>
   constructor
   ·intro args hc Q hq _
    simp only [ctrP] at hq
    split at hq
    ·obtain ⟨x, ⟨_, h, _⟩, _⟩ := hq
     exact absurd h (Nat.not_lt_zero _)
    ·exact hq.elim
   ·intro args hc Q hq _
    simp only [ctrP] at hq
    split at hq
    ·obtain ⟨x, ⟨_, h, _⟩, _⟩ := hq
     exact absurd h (Nat.not_lt_zero _)
    ·exact hq.elim
  | succ n ih => exact step n ih.1 ih.2
 constructor
 ·intro args hc Q hq hf
  match hc, hq, hf with
  | [], hq, hf =>
   obtain ⟨x, ⟨h1, h2⟩, h3⟩ := hq
   exact (all (μ x + 1)).1 args [] Q ⟨x, ⟨h1, Nat.lt_succ_self _, h2⟩, h3⟩ hf
  | _ :: _, hq, _ => exact hq.elim
 ·intro args hc Q hq hf
  match hc, hq, hf with
  | [], hq, hf =>
   obtain ⟨x, ⟨h1, h2⟩, h3⟩ := hq
   exact (all (ν x + 1)).2 args [] Q ⟨x, ⟨h1, Nat.lt_succ_self _, h2⟩, h3⟩ hf
  | _ :: _, hq, _ => exact hq.elim
theorem W3 : zc Tryz.prog 25 (v5 (VR.pre 1)) ∧ zc Tryz.prog 27 (ue (VR.pre 2)) :=
 XS (fun k : VR => k.x.size) (fun k : VR => k.x.size) fun n h1 h2 => ⟨Yl n h1 h2, XF n h1 h2⟩
theorem Vu : zc Tryz.prog 25 (v5 (VR.pre 1)) := W3.1
theorem Ua : zc Tryz.prog 27 (ue (VR.pre 2)) := W3.2
def zdq : Ctr := ctrP true (fun b : BX => [b.x.exA, .int .i64 b.want, .int .i64 b.day, envA b.f b.c]) (fun b => b.x.size < 2 ^ 40 ∧ b.x.zx < 2 ^ 40 ∧ envP (b.f, b.c)) (fun b r => r = b.ask) (fun b (r : Int) => (.int .i64 r, []))
def GRk : Nat → Option Ctr := fun f => if f = 44 then some (ur) else if f = 45 then some (uE) else if f = 46 then some (xM) else if f = 47 then some (wS) else none
theorem zft : ∀ g c, GRk g = some c → zc Tryz.prog g c := okIf VS (okIf JJ (okIf WZ (okIf Jj (okNone))))
theorem zbx : zc Tryz.prog 24 zdq := by
 refine ze (fn := Tryz.f24) (c := Tryz.f24.body.getD .skip) rfl rfl rfl fun b hb O w0 Q hq => ?_
 obtain ⟨x, want, day, f, c⟩ := b
 obtain ⟨h1, h2, h3⟩ := hb
 replace hq := hq _ rfl
 simp only [BX.ask] at h1 h2 h3 hq
 refine zb.run hmix zft [] 400 (T := .ex (fun (x_1 : Ex) => eqL [AV.agg [AV.int .u8 x.kind, AV.str x.rat, AV.str x.name, AV.int .i64 x.date, AV.sl x.sub.length 5 (Ex.exG x.sub)]] [AV.agg [AV.int .u8 x_1.kind, AV.str x_1.rat, AV.str x_1.name, AV.int .i64 x_1.date, AV.sl x_1.sub.length 5 (Ex.exG x_1.sub)]] ∧ Ex.size x_1 < 1099511627776 ∧ Ex.zx x_1 < 1099511627776) fun n => .all (fun (r : Int) => r = Ex.errX n) fun n => .ite (!decide (n = 0)) (.ex (fun (x_1 : Ex) => eqL [AV.agg [AV.int .u8 x.kind, AV.str x.rat, AV.str x.name, AV.int .i64 x.date, AV.sl x.sub.length 5 (Ex.exG x.sub)]] [AV.agg [AV.int .u8 x_1.kind, AV.str x_1.rat, AV.str x_1.name, AV.int .i64 x_1.date, AV.sl x_1.sub.length 5 (Ex.exG x_1.sub)]] ∧ Ex.size x_1 < 1099511627776 ∧ Ex.zx x_1 < 1099511627776) fun n => .all (fun (r : Int) => r = Ex.errX n) fun n => .leaf (.ret [.int .i64 n] [.box [.int .u8 x.kind, .str x.rat, .str x.name, .int .i64 x.date, .sl x.sub.length 5 (Ex.exG x.sub)], .box [.sl f.length 3 (fxG f), .sl c.length 4 (chG c)]])) (.ex (fun (x_1 : Ex) => eqL [AV.agg [AV.int .u8 x.kind, AV.str x.rat, AV.str x.name, AV.int .i64 x.date, AV.sl x.sub.length 5 (Ex.exG x.sub)]] [AV.agg [AV.int .u8 x_1.kind, AV.str x_1.rat, AV.str x_1.name, AV.int .i64 x_1.date, AV.sl x_1.sub.length 5 (Ex.exG x_1.sub)]] ∧ Ex.size x_1 < 1099511627776 ∧ Ex.zx x_1 < 1099511627776) fun n => .all (fun (r : Int) => r = Ex.z9 n) fun n => .ite (!decide (n = want)) (.leaf (.ret [.int .i64 32] [.box [.int .u8 x.kind, .str x.rat, .str x.name, .int .i64 x.date, .sl x.sub.length 5 (Ex.exG x.sub)], .box [.sl f.length 3 (fxG f), .sl c.length 4 (chG c)]])) (.ex (fun (x : List Fx × List Ch) => eqL [AV.agg [AV.sl f.length 3 (fxG f), AV.sl c.length 4 (chG c)]] [AV.agg [AV.sl x.1.length 3 (fxG x.1), AV.sl x.2.length 4 (chG x.2)]] ∧ envP x) fun n => .all (fun (r : Int) => r = errE n.1 n.2) fun n => .ite (!decide (n = 0)) (.ex (fun (x : List Fx × List Ch) => eqL [AV.agg [AV.sl f.length 3 (fxG f), AV.sl c.length 4 (chG c)]] [AV.agg [AV.sl x.1.length 3 (fxG x.1), AV.sl x.2.length 4 (chG x.2)]] ∧ envP x) fun n => .all (fun (r : Int) => r = errE n.1 n.2) fun n => .leaf (.ret [.int .i64 n] [.box [.int .u8 x.kind, .str x.rat, .str x.name, .int .i64 x.date, .sl x.sub.length 5 (Ex.exG x.sub)], .box [.sl f.length 3 (fxG f), .sl c.length 4 (chG c)]])) (.ex (fun (x : Int) => eqL [AV.int .i64 day] [AV.int .i64 x] ∧ True) fun n => .all (fun (r : Bool) => r = dayB n) fun n => .ite (!n) (.leaf (.ret [.int .i64 2] [.box [.int .u8 x.kind, .str x.rat, .str x.name, .int .i64 x.date, .sl x.sub.length 5 (Ex.exG x.sub)], .box [.sl f.length 3 (fxG f), .sl c.length 4 (chG c)]])) (.leaf (.ret [.int .i64 0] [.box [.int .u8 x.kind, .str x.rat, .str x.name, .int .i64 x.date, .sl x.sub.length 5 (Ex.exG x.sub)], .box [.sl f.length 3 (fxG f), .sl c.length 4 (chG c)]])))))) (by kernel_rfl) ?_
 simp only [Tree.holds, zd]
 have eE : eqL [AV.agg [AV.sl f.length 3 (fxG f), AV.sl c.length 4 (chG c)]] [envA f c] := ⟨⟨⟨rfl, rfl, za _ _ _⟩, ⟨rfl, rfl, za _ _ _⟩, trivial⟩, trivial⟩
 have eX : eqL [x.exA] [x.exA] := ⟨⟨⟨rfl, rfl⟩, rfl, rfl, ⟨rfl, rfl⟩, ⟨rfl, rfl, za _ _ _⟩, trivial⟩, trivial⟩
 refine ⟨x, ⟨eX, h1, h2⟩, ⟨_, rfl⟩, ?_⟩
 rintro _ rfl
 refine ⟨fun g => ?_, fun g => ?_⟩
 ·have g : x.errX ≠ 0 := by simpa using g
  rw [zec g] at hq
  refine ⟨x, ⟨eX, h1, h2⟩, ⟨_, rfl⟩, ?_⟩
  rintro _ rfl
  exact RetR.scal hq rfl (by simp [resV])
 have g : x.errX = 0 := by simpa using g
 refine ⟨x, ⟨eX, h1, h2⟩, ⟨_, rfl⟩, ?_⟩
 rintro _ rfl
 refine ⟨fun g2 => ?_, fun g2 => ?_⟩
 ·have g2 : ¬ x.z9 = want := by simpa using g2
  rw [zdu g g2] at hq
  exact RetR.scal hq rfl (by simp [resV])
 have g2 : x.z9 = want := by simpa using g2
 rw [zdt g g2] at hq
 refine ⟨(f, c), ⟨eE, h3⟩, ⟨_, rfl⟩, ?_⟩
 rintro _ rfl
 refine ⟨fun g3 => ?_, fun g3 => ?_⟩
 ·have g3 : errE f c ≠ 0 := by simpa using g3
  rw [if_neg g3] at hq
  refine ⟨(f, c), ⟨eE, h3⟩, ⟨_, rfl⟩, ?_⟩
  rintro _ rfl
  exact RetR.scal hq rfl (by simp [resV])
 have g3 : errE f c = 0 := by simpa using g3
 rw [if_pos g3] at hq
 refine ⟨day, ⟨by simp, trivial⟩, ⟨_, rfl⟩, ?_⟩
 rintro _ rfl
 refine ⟨fun g4 => ?_, fun g4 => ?_⟩
 ·have g4 : dayB day = false := by simpa using g4
  rw [g4, if_neg (by decide)] at hq
  exact RetR.scal hq rfl (by simp [resV])
 ·have g4 : dayB day = true := by simpa using g4
  rw [g4, if_pos rfl] at hq
  exact RetR.scal hq rfl (by simp [resV])
def GRv : Nat → Option Ctr := fun f => if f = 24 then some (zdq) else if f = 25 then some ((v5 (VR.pre 1))) else if f = 27 then some ((ue (VR.pre 2))) else none
theorem zaz : ∀ g c, GRv g = some c → zc Tryz.prog g c := okIf zbx (okIf Vu (okIf Ua (okNone)))
theorem X5 : zc Tryz.prog 8 Jr := by
 refine ze (fn := Tryz.f8) (c := Tryz.f8.body.getD .skip) rfl rfl rfl fun k hk O w0 Q hq => ?_
 obtain ⟨x, day, f, c⟩ := k
 obtain ⟨h1, h2, h3⟩ := hk
 replace hq := hq _ rfl
 simp only at h1 h2 h3 hq
 unfold uZ at hq
 refine zb.run hmix zaz [] 400 (T := .ex (fun (x_1 : BX) => eqL [AV.agg [AV.int .u8 x.kind, AV.str x.rat, AV.str x.name, AV.int .i64 x.date, AV.sl x.sub.length 5 (Ex.exG x.sub)], AV.int .i64 1, AV.int .i64 day, AV.agg [AV.sl f.length 3 (fxG f), AV.sl c.length 4 (chG c)]] [AV.agg [AV.int .u8 x_1.x.kind, AV.str x_1.x.rat, AV.str x_1.x.name, AV.int .i64 x_1.x.date, AV.sl x_1.x.sub.length 5 (Ex.exG x_1.x.sub)], AV.int .i64 x_1.want, AV.int .i64 x_1.day, AV.agg [AV.sl x_1.f.length 3 (fxG x_1.f), AV.sl x_1.c.length 4 (chG x_1.c)]] ∧ Ex.size x_1.x < 1099511627776 ∧ Ex.zx x_1.x < 1099511627776 ∧ envP (BX.f x_1, BX.c x_1)) fun n => .all (fun (r : Int) => r = BX.ask n) fun n => .ite (!decide (n = 0)) (.ex (fun (x_1 : BX) => eqL [AV.agg [AV.int .u8 x.kind, AV.str x.rat, AV.str x.name, AV.int .i64 x.date, AV.sl x.sub.length 5 (Ex.exG x.sub)], AV.int .i64 1, AV.int .i64 day, AV.agg [AV.sl f.length 3 (fxG f), AV.sl c.length 4 (chG c)]] [AV.agg [AV.int .u8 x_1.x.kind, AV.str x_1.x.rat, AV.str x_1.x.name, AV.int .i64 x_1.x.date, AV.sl x_1.x.sub.length 5 (Ex.exG x_1.x.sub)], AV.int .i64 x_1.want, AV.int .i64 x_1.day, AV.agg [AV.sl x_1.f.length 3 (fxG x_1.f), AV.sl x_1.c.length 4 (chG x_1.c)]] ∧ Ex.size x_1.x < 1099511627776 ∧ Ex.zx x_1.x < 1099511627776 ∧ envP (BX.f x_1, BX.c x_1)) fun n => .all (fun (r : Int) => r = BX.ask n) fun n => .leaf (.ret [.str (Array.toList #[]), .int .i64 n] [.box [.int .u8 x.kind, .str x.rat, .str x.name, .int .i64 x.date, .sl x.sub.length 5 (Ex.exG x.sub)], .box [.sl f.length 3 (fxG f), .sl c.length 4 (chG c)]])) (.ex (fun (x_1 : VR) => eqL [AV.agg [AV.int .u8 x.kind, AV.str x.rat, AV.str x.name, AV.int .i64 x.date, AV.sl x.sub.length 5 (Ex.exG x.sub)], AV.int .i64 day, AV.agg [AV.sl f.length 3 (fxG f), AV.sl c.length 4 (chG c)]] [AV.agg [AV.int .u8 x_1.x.kind, AV.str x_1.x.rat, AV.str x_1.x.name, AV.int .i64 x_1.x.date, AV.sl x_1.x.sub.length 5 (Ex.exG x_1.x.sub)], AV.int .i64 x_1.day, AV.agg [AV.sl x_1.f.length 3 (fxG x_1.f), AV.sl x_1.c.length 4 (chG x_1.c)]] ∧ VR.pre (1 : Int) x_1) fun n => .all (fun (r : List UInt8 × Int) => r.2 = Ev.e n.ev ∧ r.1 = if Ev.e n.ev = 0 then Ev.v n.ev else []) fun n => .leaf (.ret [.str n.1, .int .i64 n.2] [.box [.int .u8 x.kind, .str x.rat, .str x.name, .int .i64 x.date, .sl x.sub.length 5 (Ex.exG x.sub)], .box [.sl f.length 3 (fxG f), .sl c.length 4 (chG c)]]))) (by kernel_rfl) ?_
 simp only [Tree.holds, zd]
 have eB : eqL [x.exA, .int .i64 1, .int .i64 day, envA f c] [x.exA, .int .i64 1, .int .i64 day, envA f c] := ⟨⟨⟨rfl, rfl⟩, rfl, rfl, ⟨rfl, rfl⟩, ⟨rfl, rfl, za _ _ _⟩, trivial⟩, ⟨rfl, rfl⟩, ⟨rfl, rfl⟩, ⟨⟨rfl, rfl, za _ _ _⟩, ⟨rfl, rfl, za _ _ _⟩, trivial⟩, trivial⟩
 have eV : eqL [x.exA, .int .i64 day, envA f c] [x.exA, .int .i64 day, envA f c] := ⟨⟨⟨rfl, rfl⟩, rfl, rfl, ⟨rfl, rfl⟩, ⟨rfl, rfl, za _ _ _⟩, trivial⟩, ⟨rfl, rfl⟩, ⟨⟨rfl, rfl, za _ _ _⟩, ⟨rfl, rfl, za _ _ _⟩, trivial⟩, trivial⟩
 refine ⟨⟨x, 1, day, f, c⟩, ⟨eB, h1, h2, h3⟩, ⟨_, rfl⟩, ?_⟩
 intro e he
 have he : e = askE x 1 day f c := he
 refine ⟨fun h => ?_, fun h => ?_⟩
 ·have h : e ≠ 0 := by simpa using h
  rw [← he, if_pos h] at hq
  refine ⟨⟨x, 1, day, f, c⟩, ⟨eB, h1, h2, h3⟩, ⟨_, rfl⟩, ?_⟩
  intro e2 he2
  have he2 : e2 = askE x 1 day f c := he2
  rw [← he] at he2
  subst he2
  exact RetR.scal hq rfl (by simp [resV])
 ·have h : e = 0 := by simpa using h
  rw [← he, if_neg (by rw [h]; simp)] at hq
  obtain ⟨_, g2, g3, _⟩ := xC (he.symm.trans h)
  obtain ⟨g4, g5, _⟩ := uR.1 g3
  refine ⟨⟨x, day, f, c⟩, ⟨eV, g2, g5, by show f.length < _; omega⟩, v7 _, ?_⟩
  rintro t ⟨t1, t2⟩
  replace t1 : t.2 = (x.ev f day).e := t1
  replace t2 : t.1 = (if (x.ev f day).e = 0 then (x.ev f day).v else []) := t2
  have : (if (x.ev f day).e ≠ 0 then ([], (x.ev f day).e) else ((x.ev f day).v, 0)) = t := by
   by_cases g : (x.ev f day).e = 0
   ·rw [if_neg (by rw [g]; simp)]
    rw [if_pos g] at t2
    exact Prod.ext t2.symm (by rw [t1, g])
   ·rw [if_pos g]
    rw [if_neg g] at t2
    exact Prod.ext t2.symm t1.symm
  rw [this] at hq
  exact RetR.scal hq rfl (by simp [resV])
theorem XM : zc Tryz.prog 10 Ja := by
 refine ze (fn := Tryz.f10) (c := Tryz.f10.body.getD .skip) rfl rfl rfl fun k hk O w0 Q hq => ?_
 obtain ⟨x, day, f, c⟩ := k
 obtain ⟨h1, h2, h3⟩ := hk
 replace hq := hq _ rfl
 simp only at h1 h2 h3 hq
 unfold uX at hq
 refine zb.run hmix zaz [] 400 (T := .ex (fun (x_1 : BX) => eqL [AV.agg [AV.int .u8 x.kind, AV.str x.rat, AV.str x.name, AV.int .i64 x.date, AV.sl x.sub.length 5 (Ex.exG x.sub)], AV.int .i64 2, AV.int .i64 day, AV.agg [AV.sl f.length 3 (fxG f), AV.sl c.length 4 (chG c)]] [AV.agg [AV.int .u8 x_1.x.kind, AV.str x_1.x.rat, AV.str x_1.x.name, AV.int .i64 x_1.x.date, AV.sl x_1.x.sub.length 5 (Ex.exG x_1.x.sub)], AV.int .i64 x_1.want, AV.int .i64 x_1.day, AV.agg [AV.sl x_1.f.length 3 (fxG x_1.f), AV.sl x_1.c.length 4 (chG x_1.c)]] ∧ Ex.size x_1.x < 1099511627776 ∧ Ex.zx x_1.x < 1099511627776 ∧ envP (BX.f x_1, BX.c x_1)) fun n => .all (fun (r : Int) => r = BX.ask n) fun n => .ite (!decide (n = 0)) (.ex (fun (x_1 : BX) => eqL [AV.agg [AV.int .u8 x.kind, AV.str x.rat, AV.str x.name, AV.int .i64 x.date, AV.sl x.sub.length 5 (Ex.exG x.sub)], AV.int .i64 2, AV.int .i64 day, AV.agg [AV.sl f.length 3 (fxG f), AV.sl c.length 4 (chG c)]] [AV.agg [AV.int .u8 x_1.x.kind, AV.str x_1.x.rat, AV.str x_1.x.name, AV.int .i64 x_1.x.date, AV.sl x_1.x.sub.length 5 (Ex.exG x_1.x.sub)], AV.int .i64 x_1.want, AV.int .i64 x_1.day, AV.agg [AV.sl x_1.f.length 3 (fxG x_1.f), AV.sl x_1.c.length 4 (chG x_1.c)]] ∧ Ex.size x_1.x < 1099511627776 ∧ Ex.zx x_1.x < 1099511627776 ∧ envP (BX.f x_1, BX.c x_1)) fun n => .all (fun (r : Int) => r = BX.ask n) fun n => .leaf (.ret [.bool false, .int .i64 n] [.box [.int .u8 x.kind, .str x.rat, .str x.name, .int .i64 x.date, .sl x.sub.length 5 (Ex.exG x.sub)], .box [.sl f.length 3 (fxG f), .sl c.length 4 (chG c)]])) (.ex (fun (x_1 : VR) => eqL [AV.agg [AV.int .u8 x.kind, AV.str x.rat, AV.str x.name, AV.int .i64 x.date, AV.sl x.sub.length 5 (Ex.exG x.sub)], AV.int .i64 day, AV.agg [AV.sl f.length 3 (fxG f), AV.sl c.length 4 (chG c)]] [AV.agg [AV.int .u8 x_1.x.kind, AV.str x_1.x.rat, AV.str x_1.x.name, AV.int .i64 x_1.x.date, AV.sl x_1.x.sub.length 5 (Ex.exG x_1.x.sub)], AV.int .i64 x_1.day, AV.agg [AV.sl x_1.f.length 3 (fxG x_1.f), AV.sl x_1.c.length 4 (chG x_1.c)]] ∧ VR.pre (2 : Int) x_1) fun n => .all (fun (r : Bool × Int) => r.2 = Ev.g n.ev ∧ r.1 = if Ev.g n.ev = 0 then Ev.b n.ev else false) fun n => .leaf (.ret [.bool n.1, .int .i64 n.2] [.box [.int .u8 x.kind, .str x.rat, .str x.name, .int .i64 x.date, .sl x.sub.length 5 (Ex.exG x.sub)], .box [.sl f.length 3 (fxG f), .sl c.length 4 (chG c)]]))) (by kernel_rfl) ?_
 simp only [Tree.holds, zd]
 have eB : eqL [x.exA, .int .i64 2, .int .i64 day, envA f c] [x.exA, .int .i64 2, .int .i64 day, envA f c] := ⟨⟨⟨rfl, rfl⟩, rfl, rfl, ⟨rfl, rfl⟩, ⟨rfl, rfl, za _ _ _⟩, trivial⟩, ⟨rfl, rfl⟩, ⟨rfl, rfl⟩, ⟨⟨rfl, rfl, za _ _ _⟩, ⟨rfl, rfl, za _ _ _⟩, trivial⟩, trivial⟩
 have eV : eqL [x.exA, .int .i64 day, envA f c] [x.exA, .int .i64 day, envA f c] := ⟨⟨⟨rfl, rfl⟩, rfl, rfl, ⟨rfl, rfl⟩, ⟨rfl, rfl, za _ _ _⟩, trivial⟩, ⟨rfl, rfl⟩, ⟨⟨rfl, rfl, za _ _ _⟩, ⟨rfl, rfl, za _ _ _⟩, trivial⟩, trivial⟩
 refine ⟨⟨x, 2, day, f, c⟩, ⟨eB, h1, h2, h3⟩, ⟨_, rfl⟩, ?_⟩
 intro e he
 have he : e = askE x 2 day f c := he
 refine ⟨fun h => ?_, fun h => ?_⟩
 ·have h : e ≠ 0 := by simpa using h
  rw [← he, if_pos h] at hq
  refine ⟨⟨x, 2, day, f, c⟩, ⟨eB, h1, h2, h3⟩, ⟨_, rfl⟩, ?_⟩
  intro e2 he2
  have he2 : e2 = askE x 2 day f c := he2
  rw [← he] at he2
  subst he2
  exact RetR.scal hq rfl (by simp [resV])
 ·have h : e = 0 := by simpa using h
  rw [← he, if_neg (by rw [h]; simp)] at hq
  obtain ⟨_, g2, g3, _⟩ := xC (he.symm.trans h)
  obtain ⟨g4, g5, _⟩ := uR.1 g3
  refine ⟨⟨x, day, f, c⟩, ⟨eV, g2, g5, by show f.length < _; omega⟩, yj _, ?_⟩
  rintro t ⟨t1, t2⟩
  replace t1 : t.2 = (x.ev f day).g := t1
  replace t2 : t.1 = (if (x.ev f day).g = 0 then (x.ev f day).b else false) := t2
  have : (if (x.ev f day).g ≠ 0 then (false, (x.ev f day).g) else ((x.ev f day).b, 0)) = t := by
   by_cases g : (x.ev f day).g = 0
   ·rw [if_neg (by rw [g]; simp)]
    rw [if_pos g] at t2
    exact Prod.ext t2.symm (by rw [t1, g])
   ·rw [if_pos g]
    rw [if_neg g] at t2
    exact Prod.ext t2.symm t1.symm
  rw [this] at hq
  exact RetR.scal hq rfl (by simp [resV])
end Go.Proofs.Tryz
end

/- The law of ObservableValues holds of the code. -/
section
set_option maxRecDepth 100000
open Go Go.Sx Go.Proofs Go.Nov
namespace Go.Proofs.Tryz
attribute [local simp] eqKV eqA eqA0 eqH eqB eqL eqL0
noncomputable def K3 : List Go.Sx.Item := [.code (Tryz.f3.body.getD .skip)]
def ze1 (p : List Fx × List Ch) : Prop := p.1.length < 2 ^ 60 ∧ p.2.length < 2 ^ 60 ∧ (∀ j, j < p.1.length → YL (p.1.getD j Fx.nil)) ∧ ∀ j, j < p.2.length → Xo (p.2.getD j Ch.nil)
theorem UR {p : List Fx × List Ch} (h : fitP p) : envP p := by
 obtain ⟨h1, h2, h3, h4⟩ := h
 refine ⟨by omega, by omega, fun j hj => ?_, fun j hj => ?_⟩
 ·obtain ⟨a, b⟩ := h3 j hj; exact ⟨by omega, by omega⟩
 ·obtain ⟨a, b⟩ := h4 j hj; exact ⟨by omega, by omega⟩
def lawV : Ctr := ctrP true (fun p : Ex × Int × (List Fx × List Ch) => [p.1.exA, .int .i64 p.2.1, envA p.2.2.1 p.2.2.2]) (fun p => p.1.thin ∧ inR .i64 p.2.1 ∧ ze1 p.2.2) (fun _ r => r = true) (fun _ (r : Bool) => (.bool r, []))
def GLv : Nat → Option Ctr := fun f => if f = 5 then some (zam) else if f = 6 then some (V5) else if f = 7 then some (Jr) else if f = 9 then some (Ja) else if f = 8 then some (Jr) else if f = 10 then some (Ja) else none
theorem zfk : ∀ g c, GLv g = some c → zc Tryz.prog g c := okIf Xz (okIf zb3 (okIf zae (okIf zad (okIf X5 (okIf XM (okNone))))))
theorem zcw : zc Tryz.prog 3 lawV := by
 refine ze (fn := Tryz.f3) (c := Tryz.f3.body.getD .skip) rfl rfl rfl fun p hp O w0 Q hq => ?_
 obtain ⟨x, day, f, c⟩ := p
 obtain ⟨hx, _, he⟩ := hp
 replace hq := hq _ rfl
 simp only at hx he hq
 refine zb.run hmix zfk [] 400 (T := .ex (fun (x_1 : Ex) => eqL [AV.agg [AV.int .u8 x.kind, AV.str x.rat, AV.str x.name, AV.int .i64 x.date, AV.sl x.sub.length 5 (Ex.exG x.sub)]] [AV.agg [AV.int .u8 x_1.kind, AV.str x_1.rat, AV.str x_1.name, AV.int .i64 x_1.date, AV.sl x_1.sub.length 5 (Ex.exG x_1.sub)]] ∧ Ex.thin x_1) fun n => .all (fun (r : Bool) => r = false → Ex.size n ≤ 600 ∧ Ex.zx n ≤ 3000) fun n => .ex (fun (x : List Fx × List Ch) => n = false → eqL [AV.agg [AV.sl f.length 3 (fxG f), AV.sl c.length 4 (chG c)]] [AV.agg [AV.sl x.1.length 3 (fxG x.1), AV.sl x.2.length 4 (chG x.2)]] ∧ x.1.length < 1152921504606846976 ∧ x.2.length < 1152921504606846976 ∧ (∀ (j : Nat), j < x.1.length → YL (List.getD x.1 j Fx.nil)) ∧ ∀ (j : Nat), j < x.2.length → Xo (List.getD x.2 j Ch.nil)) fun n_1 => .all (fun (x : Bool) => n = false → x = false → fitP n_1) fun n_2 => .ite (bif n then true else n_2) (.leaf (.ret [.bool true] [.box [.int .u8 x.kind, .str x.rat, .str x.name, .int .i64 x.date, .sl x.sub.length 5 (Ex.exG x.sub)], .box [.sl f.length 3 (fxG f), .sl c.length 4 (chG c)]])) (.ex (fun (x_1 : VI) => eqL [AV.agg [AV.int .u8 x.kind, AV.str x.rat, AV.str x.name, AV.int .i64 x.date, AV.sl x.sub.length 5 (Ex.exG x.sub)], AV.int .i64 day, AV.agg [AV.sl f.length 3 (fxG f), AV.sl c.length 4 (chG c)]] [AV.agg [AV.int .u8 x_1.x.kind, AV.str x_1.x.rat, AV.str x_1.x.name, AV.int .i64 x_1.x.date, AV.sl x_1.x.sub.length 5 (Ex.exG x_1.x.sub)], AV.int .i64 x_1.day, AV.agg [AV.sl x_1.f.length 3 (fxG x_1.f), AV.sl x_1.c.length 4 (chG x_1.c)]] ∧ VI.ok x_1) fun n => .all (fun (r : List UInt8 × Int) => r = uZ n.x n.day n.f n.c) fun n => .ex (fun (x_1 : VI) => eqL [AV.agg [AV.int .u8 x.kind, AV.str x.rat, AV.str x.name, AV.int .i64 x.date, AV.sl x.sub.length 5 (Ex.exG x.sub)], AV.int .i64 day, AV.agg [AV.sl f.length 3 (fxG f), AV.sl c.length 4 (chG c)]] [AV.agg [AV.int .u8 x_1.x.kind, AV.str x_1.x.rat, AV.str x_1.x.name, AV.int .i64 x_1.x.date, AV.sl x_1.x.sub.length 5 (Ex.exG x_1.x.sub)], AV.int .i64 x_1.day, AV.agg [AV.sl x_1.f.length 3 (fxG x_1.f), AV.sl x_1.c.length 4 (chG x_1.c)]] ∧ VI.ok x_1) fun n_3 => .all (fun (r : List UInt8 × Int) => r = uZ n_3.x n_3.day n_3.f n_3.c) fun n_4 => .ex (fun (x_1 : VI) => eqL [AV.agg [AV.int .u8 x.kind, AV.str x.rat, AV.str x.name, AV.int .i64 x.date, AV.sl x.sub.length 5 (Ex.exG x.sub)], AV.int .i64 day, AV.agg [AV.sl f.length 3 (fxG f), AV.sl c.length 4 (chG c)]] [AV.agg [AV.int .u8 x_1.x.kind, AV.str x_1.x.rat, AV.str x_1.x.name, AV.int .i64 x_1.x.date, AV.sl x_1.x.sub.length 5 (Ex.exG x_1.x.sub)], AV.int .i64 x_1.day, AV.agg [AV.sl x_1.f.length 3 (fxG x_1.f), AV.sl x_1.c.length 4 (chG x_1.c)]] ∧ VI.ok x_1) fun n_5 => .all (fun (r : Bool × Int) => r = uX n_5.x n_5.day n_5.f n_5.c) fun n_6 => .ex (fun (x_1 : VI) => eqL [AV.agg [AV.int .u8 x.kind, AV.str x.rat, AV.str x.name, AV.int .i64 x.date, AV.sl x.sub.length 5 (Ex.exG x.sub)], AV.int .i64 day, AV.agg [AV.sl f.length 3 (fxG f), AV.sl c.length 4 (chG c)]] [AV.agg [AV.int .u8 x_1.x.kind, AV.str x_1.x.rat, AV.str x_1.x.name, AV.int .i64 x_1.x.date, AV.sl x_1.x.sub.length 5 (Ex.exG x_1.x.sub)], AV.int .i64 x_1.day, AV.agg [AV.sl x_1.f.length 3 (fxG x_1.f), AV.sl x_1.c.length 4 (chG x_1.c)]] ∧ VI.ok x_1) fun n_7 => .all (fun (r : Bool × Int) => r = uX n_7.x n_7.day n_7.f n_7.c) fun n_8 => .leaf (.ret [.bool (bif bif bif decide (n.1 = n_4.1) then decide (n.2 = n_4.2) else false then n_6.1 == n_8.1 else false then decide (n_6.2 = n_8.2) else false)] [.box [.int .u8 x.kind, .str x.rat, .str x.name, .int .i64 x.date, .sl x.sub.length 5 (Ex.exG x.sub)], .box [.sl f.length 3 (fxG f), .sl c.length 4 (chG c)]]))) (by kernel_rfl) ?_
 simp only [Tree.holds, zd]
 have eE : eqL [AV.agg [AV.sl f.length 3 (fxG f), AV.sl c.length 4 (chG c)]] [envA f c] := ⟨⟨⟨rfl, rfl, za _ _ _⟩, ⟨rfl, rfl, za _ _ _⟩, trivial⟩, trivial⟩
 have eX : eqL [x.exA] [x.exA] := ⟨⟨⟨rfl, rfl⟩, rfl, rfl, ⟨rfl, rfl⟩, ⟨rfl, rfl, za _ _ _⟩, trivial⟩, trivial⟩
 have eV : eqL [x.exA, .int .i64 day, envA f c] [x.exA, .int .i64 day, envA f c] := ⟨⟨⟨rfl, rfl⟩, rfl, rfl, ⟨rfl, rfl⟩, ⟨rfl, rfl, za _ _ _⟩, trivial⟩, ⟨rfl, rfl⟩, ⟨⟨rfl, rfl, za _ _ _⟩, ⟨rfl, rfl, za _ _ _⟩, trivial⟩, trivial⟩
 refine ⟨x, ⟨eX, hx⟩, ⟨true, fun h => (by cases h)⟩, ?_⟩
 intro g1 hg1
 refine ⟨(f, c), fun _ => ⟨eE, he⟩, ⟨true, fun _ h => (by cases h)⟩, ?_⟩
 intro g2 hg2
 refine ⟨fun _ => RetR.scal hq rfl (by simp [resV]), fun h => ?_⟩
 have h1 : g1 = false := by
  cases g1 with
  | false => rfl
  | true => cases h
 rw [h1] at h
 have h2 : g2 = false := h
 obtain ⟨s1, s2⟩ := hg1 h1
 have hp := UR (hg2 h1 h2)
 have hok : VI.ok ⟨x, day, f, c⟩ := ⟨by show x.size < _; omega, by show x.zx < _; omega, hp⟩
 refine ⟨⟨x, day, f, c⟩, ⟨eV, hok⟩, ⟨_, rfl⟩, ?_⟩
 rintro _ rfl
 refine ⟨⟨x, day, f, c⟩, ⟨eV, hok⟩, ⟨_, rfl⟩, ?_⟩
 rintro _ rfl
 refine ⟨⟨x, day, f, c⟩, ⟨eV, hok⟩, ⟨_, rfl⟩, ?_⟩
 rintro _ rfl
 refine ⟨⟨x, day, f, c⟩, ⟨eV, hok⟩, ⟨_, rfl⟩, ?_⟩
 rintro _ rfl
 have fin : ∀ (b : Bool) (h : Heap), b = true → RetR lawV 0 Q [.bool b] h := by
  rintro b h rfl
  exact RetR.scal hq rfl (by simp [resV])
 exact fin _ _ (by simp)
end Go.Proofs.Tryz
end

/- From a reading of the arguments to their representation; from a contract to a call. -/
section
namespace Go.Sx
variable [Stat]
open Go.RowKit (Below)
def E0 : Nat → Prop := Own (fun _ => False) []
theorem Qc (b : Nat) : ¬ E0 b := by
 rintro (h | ⟨e, he, _⟩)
 ·exact h
 ·simp at he
def Tw (P : Program) (W : World) (t : TypeId) (cs : List Value) : Prop := ∃ (H : Type) (enc : TypeId × Value → H) (base fuel : Nat) (d : DataW H) (ps : List MemPlace), DataW.trod enc P W base (fun _ => true) true fuel t cs = some (d, ps) ∧ ∀ n ∈ d.weights P t, n ≤ reachBytes
section
variable {P : Program} {W : World} {t e : TypeId} {cs : List Value}
theorem yB (ht : P.underlying t = some .string) (h : Tw P W t cs) : ∃ s : List UInt8, cs = [.string ⟨s.toArray⟩] ∧ s.length ≤ reachBytes := by
 obtain ⟨H, enc, base, fuel, d, ps, h, hw⟩ := h
 obtain ⟨s, rfl, hx, _⟩ := DataW.trod_string ht h
 cases hx
 exact ⟨s.data.toList, by simp, hw _ (by simp [DataW.weights])⟩
theorem uC {k : IntKind} (ht : P.underlying t = some (.int k)) (h : Tw P W t cs) : ∃ n, cs = [.int k n] ∧ (Lit.int k n).wf = true := by
 obtain ⟨H, enc, base, fuel, d, ps, h, hw⟩ := h
 obtain ⟨n, rfl, hx, hwf⟩ := DataW.trod_int ht h
 exact ⟨n, rfl, hwf⟩
theorem zbw (ht : P.underlying t = some .bool) (h : Tw P W t cs) : ∃ b, cs = [.bool b] := by
 obtain ⟨H, enc, base, fuel, d, ps, h, hw⟩ := h
 obtain ⟨b, rfl, hx⟩ := DataW.trod_bool ht h
 exact ⟨b, rfl⟩
theorem yE {fs : Array Field} (ht : P.underlying t = some (.struct fs)) (h : Tw P W t cs) : cs.length = P.cellsOf t ∧ ∀ (i : Nat) (f : Field), fs[i]? = some f → Tw P W f.type ((cs.drop f.offset).take (P.cellsOf f.type)) := by
 obtain ⟨H, enc, base, fuel, d, ps, h, hw⟩ := h
 obtain ⟨xs, n, _, hx, hl, hlen, hf⟩ := DataW.trod_struct ht h
 cases hx
 refine ⟨hl, fun i f hfi => ?_⟩
 have hi := hf i f hfi
 have hlt : i < xs.length := by
  rw [hlen]; exact (Array.getElem?_eq_some_iff.1 hfi).1
 rw [List.getElem?_eq_getElem hlt] at hi
 refine ⟨H, enc, base, n, xs[i].1, xs[i].2, hi, fun m hm => hw m ?_⟩
 simp only [DataW.weights, ht]
 exact DataW.weights_mem_each (j := i) (t := f.type) (d := xs[i].1) (by simp [hfi]) (by simp [hlt]) m hm
theorem w8 {H : Type} {d : DataW H} : ∀ {l : List (DataW H)}, d ∈ l → ∀ n ∈ d.weights P e, n ∈ DataW.weightsAll P e l
 | x :: l, hd, n, hn => by
  simp only [DataW.weightsAll, List.mem_append]
  rcases List.mem_cons.1 hd with rfl | hd
  ·exact .inl hn
  ·exact .inr (w8 hd n hn)
theorem zat (ht : P.underlying t = some (.slice e)) (h : Tw P W t cs) : cs = [.slice none 0 0] ∨ ∃ (a : Addr) (len cap : Nat), cs = [.slice (some a) len cap] ∧ len ≤ cap ∧ cap * P.bytesOf e ≤ reachBytes ∧
  ∀ i, i < len → ∃ cs', cs'.length = P.cellsOf e ∧ (∀ o, o < P.cellsOf e → W.cell? ((a.add (i * P.cellsOf e)).add o) = cs'[o]?) ∧ Tw P W e cs' := by
 obtain ⟨H, enc, base, fuel, d, ps, h, hw⟩ := h
 rcases DataW.trod_slice ht h with ⟨rfl, _⟩ | ⟨a, len, cap, elems, rest, n, _, rfl, hx, hb, hl, hm, hlen, hel, hsp, _⟩
 ·exact .inl rfl
 ·right
  cases hx
  obtain ⟨hrl, _⟩ := hsp rfl
  simp only [DataW.weights, ht] at hw
  refine ⟨a, len, cap, rfl, hl, ?_, fun i hi => ?_⟩
  ·have := hw _ (List.mem_cons_self)
   simp only [List.length_map, hlen, hrl] at this
   rwa [show len + (cap - len) = cap by omega] at this
  ·have h1 := hel i hi
   have hlt : i < elems.length := by rw [hlen]; exact hi
   rw [List.getElem?_eq_getElem hlt, Option.bind_eq_some_iff] at h1
   obtain ⟨cs', h2, h3⟩ := h1
   obtain ⟨_, h4, h5⟩ := World.cells?_some h2
   refine ⟨cs', h4, h5, H, enc, base, n, elems[i].1, elems[i].2, h3, fun m hm2 => hw m ?_⟩
   simp only [List.mem_cons, List.mem_append]
   exact .inr (.inl (w8 (d := elems[i].1) (List.mem_map.2 ⟨elems[i], List.getElem_mem hlt, rfl⟩) m hm2))
theorem Q7 {α : Type} (z : α) (cell : α → Nat → AV) (good : α → Prop) {sz : Nat} (ht : P.underlying t = some (.slice e)) (hsz : P.cellsOf e = sz) (hpos : 0 < sz)
  (hel : ∀ cs', Tw P W e cs' → ∃ x : α, good x ∧ ∀ o, o < sz → ∃ c, cs'[o]? = some c ∧ c.oneCell' = true ∧ Rep E0 W (cell x o) [] c) (h : Tw P W t cs) :
  ∃ (l : List α) (v : Value), cs = [v] ∧ (∀ x ∈ l, good x) ∧ l.length * P.bytesOf e ≤ reachBytes ∧ v.oneCell' = true ∧ Rep E0 W (.sl l.length sz fun j => cell (l.getD j z)) [] v := by
 rcases zat ht h with rfl | ⟨a, len, cap, rfl, hl, hw, hx⟩
 ·refine ⟨[], _, rfl, by simp, by simp, rfl, ?_⟩
  simp only [Rep]
  exact ⟨none, 0, rfl, Nat.le_refl _, .inl rfl⟩
 ·rw [hsz] at hx
  have hx2 : ∀ i, ∃ x : α, i < len → good x ∧ ∀ o, o < sz → ∃ c, W.cell? ((a.add (i * sz)).add o) = some c ∧ c.oneCell' = true ∧ Rep E0 W (cell x o) [] c := fun i => by
   by_cases hi : i < len
   ·obtain ⟨cs', h1, h2, h3⟩ := hx i hi
    obtain ⟨x, hg, hc⟩ := hel cs' h3
    exact ⟨x, fun _ => ⟨hg, fun o ho => by
     obtain ⟨c, g1, g2, g3⟩ := hc o ho
     exact ⟨c, by rw [h2 o ho, g1], g2, g3⟩⟩⟩
   ·exact ⟨z, fun h => absurd h hi⟩
  obtain ⟨f, hf⟩ := Classical.axiomOfChoice hx2
  have hgd : ∀ j, j < len → ((List.range len).map f).getD j z = f j := fun j hj => by simp [List.getD, hj]
  refine ⟨(List.range len).map f, _, rfl, fun x hxm => ?_, ?_, rfl, ?_⟩
  ·obtain ⟨i, hi, rfl⟩ := List.mem_map.1 hxm
   exact (hf i (List.mem_range.1 hi)).1
  ·simp only [List.length_map, List.length_range]
   exact Nat.le_trans (Nat.mul_le_mul_right _ hl) hw
  ·simp only [Rep, List.length_map, List.length_range]
   refine ⟨some a, cap, rfl, hl, ?_⟩
   rcases Nat.eq_zero_or_pos len with h0 | h0
   ·exact .inl h0
   ·right
    have hspot : a.spot = none := by
     obtain ⟨c, g1, _⟩ := (hf 0 h0).2 0 hpos
     have := World.cell?_spot g1
     simpa [Addr.add] using this
    refine ⟨a, rfl, hspot, fun j o hj ho => ⟨Qc _, ?_⟩⟩
    obtain ⟨c, g1, g2, g3⟩ := (hf j hj).2 o ho
    refine ⟨c, ?_, g2, by rw [hgd j hj]; exact g3⟩
    rw [← g1]
    obtain ⟨b, off, spot⟩ := a
    simp only at hspot
    subst hspot
    congr 1
    simp only [Addr.add]
    split <;> split <;> simp_all <;> omega
theorem X3 {g : Nat} {fn : Func} {c : Code} (hf : P.funcs[g]? = some fn) (hb : fn.body = some c) (hn : (fn.name == "runtime.NumGoroutine") = false) {ctr : Ctr} (hok : zc P g ctr) {args : List AV} {vals : List Value}
  (hspec : (ctr.spec args []).holds fun r => r = (.bool true, [])) (hr : RepL E0 W args [] vals) (hst : wJ E0 W) : Calls P g vals.toArray W fun e W' => e = .returned (.bool true) ∧ Below W.heap.size W W' := by
 have hn' : ¬ fn.name = "runtime.NumGoroutine" := by simpa using hn
 have hg : Good (fun _ => False) W [] := ⟨fun b h => h.elim, fun i e ad he => by simp at he, hst⟩
 have hh : HRep (Own (fun _ => False) []) W [] [] := ⟨rfl, fun i j e f a b he => by simp at he, fun i e a he => by simp at he, fun i e b he => by simp at he⟩
 rcases hok args [] _ hspec (fun _ => rfl) (fun _ => False) W [] vals hg hh hr with ⟨_, h⟩ | ⟨v, w', h, _⟩
 ·refine h.mono ?_
  rintro e W' ⟨v, rfl, r, hs, σ', hq, h1, _, _, _, _, hx⟩
  cases hq
  simp only [Rep] at h1
  subst h1
  exact ⟨rfl, hx.os, hx.tape, hx.output, hx.size, fun k hk => hx.keep k hk fun ⟨e, he, _⟩ => by simp at he⟩
 ·simp [callFunc, hf, hn', hb] at h
end
end Go.Sx
end

/- Recursive data as arguments; package-level maps that read as they are laid. -/
section
namespace Go.Sx
variable [Stat]
def TwN (P : Program) (W : World) (fuel : Nat) (t : TypeId) (cs : List Value) : Prop := ∃ (H : Type) (enc : TypeId × Value → H) (base : Nat) (d : DataW H) (ps : List MemPlace), DataW.trod enc P W base (fun _ => true) true fuel t cs = some (d, ps) ∧ ∀ n ∈ d.weights P t, n ≤ reachBytes
section
variable {P : Program} {W : World} {t e : TypeId} {cs : List Value}
theorem TwN.tw {fuel : Nat} (h : TwN P W fuel t cs) : Tw P W t cs := by
 obtain ⟨H, enc, base, d, ps, h, hw⟩ := h
 exact ⟨H, enc, base, fuel, d, ps, h, hw⟩
theorem Tw.twn (h : Tw P W t cs) : ∃ fuel, TwN P W fuel t cs := by
 obtain ⟨H, enc, base, fuel, d, ps, h, hw⟩ := h
 exact ⟨fuel, H, enc, base, d, ps, h, hw⟩
theorem Ve {fuel : Nat} {fs : Array Field} (ht : P.underlying t = some (.struct fs)) (h : TwN P W fuel t cs) : cs.length = P.cellsOf t ∧ ∃ n, n < fuel ∧ ∀ (i : Nat) (f : Field), fs[i]? = some f → TwN P W n f.type ((cs.drop f.offset).take (P.cellsOf f.type)) := by
 obtain ⟨H, enc, base, d, ps, h, hw⟩ := h
 obtain ⟨xs, n, hn, hx, hl, hlen, hf⟩ := DataW.trod_struct ht h
 cases hx
 refine ⟨hl, n, by omega, fun i f hfi => ?_⟩
 have hi := hf i f hfi
 have hlt : i < xs.length := by
  rw [hlen]; exact (Array.getElem?_eq_some_iff.1 hfi).1
 rw [List.getElem?_eq_getElem hlt] at hi
 refine ⟨H, enc, base, xs[i].1, xs[i].2, hi, fun m hm => hw m ?_⟩
 simp only [DataW.weights, ht]
 exact DataW.weights_mem_each (j := i) (t := f.type) (d := xs[i].1) (by simp [hfi]) (by simp [hlt]) m hm
theorem Yk {fuel : Nat} (ht : P.underlying t = some (.slice e)) (h : TwN P W fuel t cs) : cs = [.slice none 0 0] ∨ ∃ (a : Addr) (len cap n : Nat), n < fuel ∧ cs = [.slice (some a) len cap] ∧ len ≤ cap ∧ cap * P.bytesOf e ≤ reachBytes ∧
  ∀ i, i < len → ∃ cs', cs'.length = P.cellsOf e ∧ (∀ o, o < P.cellsOf e → W.cell? ((a.add (i * P.cellsOf e)).add o) = cs'[o]?) ∧ TwN P W n e cs' := by
 obtain ⟨H, enc, base, d, ps, h, hw⟩ := h
 rcases DataW.trod_slice ht h with ⟨rfl, _⟩ | ⟨a, len, cap, elems, rest, n, hn, rfl, hx, hb, hl, hm, hlen, hel, hsp, _⟩
 ·exact .inl rfl
 ·right
  cases hx
  obtain ⟨hrl, _⟩ := hsp rfl
  simp only [DataW.weights, ht] at hw
  refine ⟨a, len, cap, n, by omega, rfl, hl, ?_, fun i hi => ?_⟩
  ·have := hw _ (List.mem_cons_self)
   simp only [List.length_map, hlen, hrl] at this
   rwa [show len + (cap - len) = cap by omega] at this
  ·have h1 := hel i hi
   have hlt : i < elems.length := by rw [hlen]; exact hi
   rw [List.getElem?_eq_getElem hlt, Option.bind_eq_some_iff] at h1
   obtain ⟨cs', h2, h3⟩ := h1
   obtain ⟨_, h4, h5⟩ := World.cells?_some h2
   refine ⟨cs', h4, h5, H, enc, base, elems[i].1, elems[i].2, h3, fun m hm2 => hw m ?_⟩
   simp only [List.mem_cons, List.mem_append]
   exact .inr (.inl (w8 (d := elems[i].1) (List.mem_map.2 ⟨elems[i], List.getElem_mem hlt, rfl⟩) m hm2))
theorem VA {α : Type} (z : α) (cell : α → Nat → AV) (good : α → Prop) {sz fuel : Nat} (ht : P.underlying t = some (.slice e)) (hsz : P.cellsOf e = sz) (hpos : 0 < sz)
  (hel : ∀ n cs', n < fuel → TwN P W n e cs' → ∃ x : α, good x ∧ ∀ o, o < sz → ∃ c, cs'[o]? = some c ∧ c.oneCell' = true ∧ Rep E0 W (cell x o) [] c) (h : TwN P W fuel t cs) :
  ∃ (l : List α) (v : Value), cs = [v] ∧ (∀ x ∈ l, good x) ∧ l.length * P.bytesOf e ≤ reachBytes ∧ v.oneCell' = true ∧ Rep E0 W (.sl l.length sz fun j => cell (l.getD j z)) [] v := by
 rcases Yk ht h with rfl | ⟨a, len, cap, n, hn, rfl, hl, hw, hx⟩
 ·refine ⟨[], _, rfl, by simp, by simp, rfl, ?_⟩
  simp only [Rep]
  exact ⟨none, 0, rfl, Nat.le_refl _, .inl rfl⟩
 ·rw [hsz] at hx
  have hx2 : ∀ i, ∃ x : α, i < len → good x ∧ ∀ o, o < sz → ∃ c, W.cell? ((a.add (i * sz)).add o) = some c ∧ c.oneCell' = true ∧ Rep E0 W (cell x o) [] c := fun i => by
   by_cases hi : i < len
   ·obtain ⟨cs', h1, h2, h3⟩ := hx i hi
    obtain ⟨x, hg, hc⟩ := hel n cs' hn h3
    exact ⟨x, fun _ => ⟨hg, fun o ho => by
     obtain ⟨c, g1, g2, g3⟩ := hc o ho
     exact ⟨c, by rw [h2 o ho, g1], g2, g3⟩⟩⟩
   ·exact ⟨z, fun h => absurd h hi⟩
  obtain ⟨f, hf⟩ := Classical.axiomOfChoice hx2
  have hgd : ∀ j, j < len → ((List.range len).map f).getD j z = f j := fun j hj => by simp [List.getD, hj]
  refine ⟨(List.range len).map f, _, rfl, fun x hxm => ?_, ?_, rfl, ?_⟩
  ·obtain ⟨i, hi, rfl⟩ := List.mem_map.1 hxm
   exact (hf i (List.mem_range.1 hi)).1
  ·simp only [List.length_map, List.length_range]
   exact Nat.le_trans (Nat.mul_le_mul_right _ hl) hw
  ·simp only [Rep, List.length_map, List.length_range]
   refine ⟨some a, cap, rfl, hl, ?_⟩
   rcases Nat.eq_zero_or_pos len with h0 | h0
   ·exact .inl h0
   ·right
    have hspot : a.spot = none := by
     obtain ⟨c, g1, _⟩ := (hf 0 h0).2 0 hpos
     have := World.cell?_spot g1
     simpa [Addr.add] using this
    refine ⟨a, rfl, hspot, fun j o hj ho => ⟨Qc _, ?_⟩⟩
    obtain ⟨c, g1, g2, g3⟩ := (hf j hj).2 o ho
    refine ⟨c, ?_, g2, by rw [hgd j hj]; exact g3⟩
    rw [← g1]
    obtain ⟨b, off, spot⟩ := a
    simp only at hspot
    subst hspot
    congr 1
    simp only [Addr.add]
    split <;> split <;> simp_all <;> omega
theorem za9 {H : Type} {enc : TypeId × Value → H} {base : Nat} {sp : Nat → Bool} {held : Bool} {fuel : Nat} {kd : IntKind} {ps : List Int} {q : List MemPlace} (ht : P.underlying t = some (.slice e)) (he : P.underlying e = some (.int kd)) (hc : P.cellsOf e = 1) (hne : ps ≠ [])
  (h : DataW.trod enc P W base sp held fuel t cs = some (.slice (ps.map fun z => .lit (.int kd z)) [], q)) : ∃ c, cs = [c] ∧ c.oneCell' = true ∧ Rep E0 W (.sl ps.length 1 fun j _ => .int kd (ps.getD j 0)) [] c := by
 obtain ⟨a, cap, rfl, hl, hel⟩ := open_row ht hc h
 refine ⟨_, rfl, rfl, ?_⟩
 simp only [List.length_map] at hl
 have hv : ∀ j, j < ps.length → W.cell? (a.add j) = some (.int kd (ps.getD j 0)) := fun j hj => by
  obtain ⟨v, n, q', h1, h2⟩ := hel j (.lit (.int kd (ps.getD j 0))) (by simp [List.getD, hj])
  obtain ⟨m, h3, h4, _⟩ := DataW.trod_int he h2
  simp only [List.cons.injEq, and_true] at h3
  simp only [Prod.mk.injEq, DataW.lit.injEq, Lit.int.injEq, true_and] at h4
  rw [h1, h3, h4.1]
 simp only [Rep, List.length_map]
 refine ⟨some a, cap, rfl, hl, .inr ⟨a, rfl, ?_, fun j o hj ho => ⟨Qc _, .int kd (ps.getD j 0), ?_, rfl, rfl⟩⟩⟩
 ·have := World.cell?_spot (hv 0 (List.length_pos_iff.2 hne))
  simpa [Addr.add] using this
 ·have : o = 0 := by omega
  subst this
  have hs : a.spot = none := by
   have := World.cell?_spot (hv 0 (List.length_pos_iff.2 hne))
   simpa [Addr.add] using this
  rw [← hv j hj]
  obtain ⟨b, off, spot⟩ := a
  simp only at hs
  subst hs
  congr 1
  simp only [Addr.add]
  split <;> simp_all
end
section
open Go.WideElems Go.ChangeMaps
variable {H : Type} {enc : TypeId × Value → H} {P : Program} {W : World} {base : Nat} {sp : Nat → Bool} {held : Bool}
theorem Z7 {x : Lit × DataW H} : ∀ {l : List (Lit × DataW H)}, x ∈ l.foldr DataW.insert [] ↔ x ∈ l
 | [] => Iff.rfl
 | y :: l => by rw [List.foldr_cons, mem_insert_iff, Z7, List.mem_cons]
theorem K1 {g : Nat} {t k e : TypeId} {kd : IntKind} {ag : Bool} {sz : Nat} {ks : List Int} {has : Int → Bool} {get : Int → Nat → AV} {fuel : Nat} {c : Value} {es0 : List (Lit × DataW H)} {q : List MemPlace}
  (hg : (Stat.z g).isSome = true) (ht : P.underlying t = some (.map k e)) (hk : P.underlying k = some (.int kd)) (hc : W.cell? ⟨g, 0, none⟩ = some c) (hne : es0 ≠ [])
  (h : DataW.trod enc P W base sp held fuel t [c] = some (.map es0, q))
  (hin : ∀ (n : Int) (d : DataW H), (.int kd n, d) ∈ es0 → has n = true ∧ ∀ (v : Value) (m : Nat) (q : List MemPlace), v.formed P e = true → DataW.trod enc P W base sp held m e v.cells.toList = some (d, q) →
   match ag with
   | true => ∃ vs : List Value, v = .agg vs.toArray ∧ vs.length = sz ∧ ∀ o, o < sz → ∃ c, vs[o]? = some c ∧ Rep E0 W (get n o) [] c
   | false => Rep E0 W (get n 0) [] v)
  (hout : ∀ n, has n = true → ∃ d, (.int kd n, d) ∈ es0) : Rep E0 W (.mp kd ag sz ks has get) [] c ∧ ∀ b, c = .map (some b) → b < W.heap.size := by
 rcases open_map ht h with ⟨_, hx⟩ | ⟨b, es, clock, n, _, hcs, hb, _, F, hx⟩
 ·simp at hx
 ·simp only [List.cons.injEq, and_true] at hcs
  subst hcs
  simp only [Prod.mk.injEq, DataW.map.injEq] at hx
  have hkey : ∀ x ∈ es.toList, ∃ (m : Int) (z : DataW H × List MemPlace), x.key = .int kd m ∧ elemAt enc P W base sp held n e x.val = some z ∧ (.int kd m, z.1) ∈ es0 := by
   intro x hxm
   obtain ⟨y, hy⟩ := F.reads x hxm
   have h1 := rd_key hy
   obtain ⟨z, h2, h3⟩ := rd_val hy
   have h4 : y ∈ es0 := by rw [hx.1, Z7]; exact List.mem_map.2 ⟨x, hxm, rg_of hy⟩
   have h5 : mapKey P k x.key = some y.1 := by
    simp only [keyOf, hk] at h1
    exact h1
   unfold mapKey at h5
   rw [hk] at h5
   cases hxk : x.key with
   | int k' m =>
    rw [hxk] at h5
    simp only at h5
    split at h5
    ·rename_i hc2
     have h6 := Option.some.inj h5
     obtain ⟨rfl, _⟩ := hc2
     refine ⟨m, z, rfl, h2, ?_⟩
     rw [h6, ← h3]; exact h4
    ·cases h5
   | _ => rw [hxk] at h5; simp at h5
  have hlt : b < W.heap.size := (Array.getElem?_eq_some_iff.1 hb).1
  refine ⟨?_, fun b' hb' => by cases hb'; exact hlt⟩
  simp only [Rep]
  refine ⟨b, es, clock, rfl, Qc _, ⟨g, Qc _, hg, hc⟩, hb, fun m => ?_⟩
  have hspec := MapKept.findNow_spec (d := .int kd) (k := .int kd m) (by simp [MapKept.IsKey]) es.toList 0 (fun x hxm => by
   obtain ⟨m', z, h1, _⟩ := hkey x hxm
   rw [h1]; simp [MapKept.IsKey])
  rcases hspec with ⟨h1, h2⟩ | ⟨j, x, h1, h2, h3⟩
  ·refine ⟨fun _ => h1, fun hm => ?_⟩
   obtain ⟨d, hd⟩ := hout m hm
   rw [hx.1, Z7] at hd
   obtain ⟨x, hxm, hrx⟩ := List.mem_map.1 hd
   obtain ⟨y, hy⟩ := F.reads x hxm
   rw [rg_of hy] at hrx
   have h5 := rd_key hy
   rw [hrx] at h5
   obtain ⟨m', z, g1, _⟩ := hkey x hxm
   have : keyOf P k x.key = some (.int kd m') := by
    rw [g1] at h5 ⊢
    simp only [keyOf, hk, mapKey] at h5 ⊢
    split at h5
    ·rename_i hwf; rw [if_pos hwf]
    ·cases h5
   rw [this] at h5
   cases h5
   exact absurd g1 (h2 x hxm)
  ·have hxm : x ∈ es.toList := List.mem_of_getElem? h2
   obtain ⟨m', z, g1, g2, g3⟩ := hkey x hxm
   rw [h3] at g1
   cases g1
   obtain ⟨hh, hrep⟩ := hin m z.1 g3
   refine ⟨fun hf => (by rw [hf] at hh; cases hh), fun _ => ⟨_, x.val, h1, ?_⟩⟩
   unfold elemAt at g2
   split at g2
   ·rename_i hfm
    exact hrep x.val n z.2 hfm g2
   ·cases g2
end
end Go.Sx
end

/- What rows hand to laws: arguments as data. -/
section
set_option maxRecDepth 100000
namespace Go.Proofs.YtlplmejjddgkoaaGreatDoor
open Go Go.Sx Go.Nov Go.Proofs.Tryz Go.ChangeShapes Go.WideShapes Go.ChangeAt Go.RowKit
theorem kI : Tryz.prog.cellsOf 9 = 1 := by kernel_rfl
theorem Qj : Tryz.prog.cellsOf 22 = 1 := by kernel_rfl
theorem yM : Tryz.prog.cellsOf 3 = 1 := by kernel_rfl
theorem Kf : Tryz.prog.cellsOf 4 = 1 := by kernel_rfl
theorem Wn : Tryz.prog.cellsOf 52 = 3 := by kernel_rfl
theorem JY : Tryz.prog.cellsOf 54 = 4 := by kernel_rfl
theorem zbe : Tryz.prog.cellsOf 26 = 1 := by kernel_rfl
theorem zaj : Tryz.prog.cellsOf 27 = 1 := by kernel_rfl
theorem Yp : Tryz.prog.cellsOf 29 = 2 := by kernel_rfl
def Y7 (x : Fx) : Prop := x.name.length ≤ reachBytes ∧ x.value.length ≤ reachBytes
def zb8 (x : Ch) : Prop := x.zM.length ≤ reachBytes ∧ x.name.length ≤ reachBytes
theorem Ui {W : World} {cs : List Value} (h : Tw Tryz.prog W 52 cs) : ∃ x : Fx, Y7 x ∧ cs = [.string ⟨x.name.toArray⟩, .int .i64 x.date, .string ⟨x.value.toArray⟩] := by
 obtain ⟨hl, hf⟩ := yE Tryz.underlying52 h
 rw [Wn] at hl
 match cs, hl with
 | [a, b, c], _ =>
  have h0 : Tw Tryz.prog W 9 (([a, b, c].drop 0).take (Tryz.prog.cellsOf 9)) := hf 0 _ rfl
  rw [kI] at h0
  replace h0 : Tw Tryz.prog W 9 [a] := h0
  have h1 : Tw Tryz.prog W 3 (([a, b, c].drop 1).take (Tryz.prog.cellsOf 3)) := hf 1 _ rfl
  rw [yM] at h1
  replace h1 : Tw Tryz.prog W 3 [b] := h1
  have h2 : Tw Tryz.prog W 22 (([a, b, c].drop 2).take (Tryz.prog.cellsOf 22)) := hf 2 _ rfl
  rw [Qj] at h2
  replace h2 : Tw Tryz.prog W 22 [c] := h2
  obtain ⟨s, e0, w0⟩ := yB Tryz.underlying9 h0
  obtain ⟨n, e1, w1⟩ := uC Tryz.underlying3 h1
  obtain ⟨u, e2, w2⟩ := yB Tryz.underlying22 h2
  cases e0; cases e1; cases e2
  exact ⟨⟨s, n, u⟩, ⟨w0, w2⟩, rfl⟩
theorem Uk {W : World} {cs : List Value} (h : Tw Tryz.prog W 54 cs) : ∃ x : Ch, zb8 x ∧ cs = [.string ⟨x.zM.toArray⟩, .string ⟨x.name.toArray⟩, .int .i64 x.date, .bool x.first] := by
 obtain ⟨hl, hf⟩ := yE Tryz.underlying54 h
 rw [JY] at hl
 match cs, hl with
 | [a, b, c, d], _ =>
  have h0 : Tw Tryz.prog W 9 (([a, b, c, d].drop 0).take (Tryz.prog.cellsOf 9)) := hf 0 _ rfl
  rw [kI] at h0
  replace h0 : Tw Tryz.prog W 9 [a] := h0
  have h1 : Tw Tryz.prog W 9 (([a, b, c, d].drop 1).take (Tryz.prog.cellsOf 9)) := hf 1 _ rfl
  rw [kI] at h1
  replace h1 : Tw Tryz.prog W 9 [b] := h1
  have h2 : Tw Tryz.prog W 3 (([a, b, c, d].drop 2).take (Tryz.prog.cellsOf 3)) := hf 2 _ rfl
  rw [yM] at h2
  replace h2 : Tw Tryz.prog W 3 [c] := h2
  have h3 : Tw Tryz.prog W 4 (([a, b, c, d].drop 3).take (Tryz.prog.cellsOf 4)) := hf 3 _ rfl
  rw [Kf] at h3
  replace h3 : Tw Tryz.prog W 4 [d] := h3
  obtain ⟨s, e0, w0⟩ := yB Tryz.underlying9 h0
  obtain ⟨u, e1, w1⟩ := yB Tryz.underlying9 h1
  obtain ⟨n, e2, w2⟩ := uC Tryz.underlying3 h2
  obtain ⟨b, e3⟩ := zbw Tryz.underlying4 h3
  cases e0; cases e1; cases e2; cases e3
  exact ⟨⟨s, u, n, b⟩, ⟨w0, w1⟩, rfl⟩
theorem XK {W : World} {cs : List Value} (h : Tw Tryz.prog W 29 cs) : ∃ (f : List Fx) (c : List Ch) (u v : Value), cs = [u, v] ∧ (∀ x ∈ f, Y7 x) ∧ (∀ x ∈ c, zb8 x) ∧ f.length * 40 ≤ reachBytes ∧ c.length * 48 ≤ reachBytes ∧ Rep E0 W (fxS f) [] u ∧ Rep E0 W (chS c) [] v := by
 obtain ⟨hl, hf⟩ := yE Tryz.underlying29 h
 rw [Yp] at hl
 match cs, hl with
 | [a, b], _ =>
  have h0 : Tw Tryz.prog W 26 (([a, b].drop 0).take (Tryz.prog.cellsOf 26)) := hf 0 _ rfl
  rw [zbe] at h0
  replace h0 : Tw Tryz.prog W 26 [a] := h0
  have h1 : Tw Tryz.prog W 27 (([a, b].drop 1).take (Tryz.prog.cellsOf 27)) := hf 1 _ rfl
  rw [zaj] at h1
  replace h1 : Tw Tryz.prog W 27 [b] := h1
  obtain ⟨f, u, e0, gf, wf, _, rf⟩ := Q7 Fx.nil Fx.cell Y7 Tryz.underlying26 Wn (by decide) (fun cs' h' => by
   obtain ⟨x, hx, rfl⟩ := Ui h'
   refine ⟨x, hx, fun o ho => ?_⟩
   match o, ho with
   | 0, _ => exact ⟨_, rfl, rfl, by simp [Fx.cell, Rep]⟩
   | 1, _ => exact ⟨_, rfl, rfl, by simp [Fx.cell, Rep]⟩
   | 2, _ => exact ⟨_, rfl, rfl, by simp [Fx.cell, Rep]⟩) h0
  obtain ⟨c, v, e1, gc, wc, _, rc⟩ := Q7 Ch.nil Ch.cell zb8 Tryz.underlying27 JY (by decide) (fun cs' h' => by
   obtain ⟨x, hx, rfl⟩ := Uk h'
   refine ⟨x, hx, fun o ho => ?_⟩
   match o, ho with
   | 0, _ => exact ⟨_, rfl, rfl, by simp [Ch.cell, Rep]⟩
   | 1, _ => exact ⟨_, rfl, rfl, by simp [Ch.cell, Rep]⟩
   | 2, _ => exact ⟨_, rfl, rfl, by simp [Ch.cell, Rep]⟩
   | 3, _ => exact ⟨_, rfl, rfl, by simp [Ch.cell, Rep]⟩) h1
  cases e0; cases e1
  have b1 : Tryz.prog.bytesOf 52 = 40 := by kernel_rfl
  have b2 : Tryz.prog.bytesOf 54 = 48 := by kernel_rfl
  rw [b1] at wf
  rw [b2] at wc
  exact ⟨f, c, _, _, rfl, gf, gc, wf, wc, rf, rc⟩
theorem zdk {W : World} {cs : List Value} (h : Tw Tryz.prog W 29 cs) : ∃ p : List Fx × List Ch, ze1 p ∧ Rep E0 W (envA p.1 p.2) [] (.agg cs.toArray) := by
 obtain ⟨f, c, u, v, rfl, gf, gc, wf, wc, rf, rc⟩ := XK h
 have hr := reachBytes_lt
 refine ⟨(f, c), ⟨by show f.length < _; omega, by show c.length < _; omega, fun j hj => ?_, fun j hj => ?_⟩, ?_⟩
 ·have := gf (f.getD j Fx.nil) (by simp only at hj; simp [List.getD, hj])
  exact ⟨by have := this.1; show (f.getD j Fx.nil).name.length < _; omega, by have := this.2; show (f.getD j Fx.nil).value.length < _; omega⟩
 ·have := gc (c.getD j Ch.nil) (by simp only at hj; simp [List.getD, hj])
  exact ⟨by have := this.1; show (c.getD j Ch.nil).zM.length < _; omega, by have := this.2; show (c.getD j Ch.nil).name.length < _; omega⟩
 ·simp only [RepL, Rep, envA]
  exact ⟨[u, v], rfl, u, _, rfl, rf, v, _, rfl, rc, rfl⟩
theorem zcc {W : World} {cs : List Value} (h : Tw Tryz.prog W 3 cs) : ∃ n : Int, cs = [.int .i64 n] ∧ inR .i64 n ∧ Rep E0 W (.int .i64 n) [] (.int .i64 n) := by
 obtain ⟨n, rfl, hn⟩ := uC Tryz.underlying3 h
 refine ⟨n, rfl, ?_, by simp [Rep]⟩
 simp only [Lit.wf, Bool.and_eq_true, decide_eq_true_eq] at hn
 exact hn
theorem US : Tryz.prog.cellsOf 5 = 1 := by kernel_rfl
theorem zab : Tryz.prog.cellsOf 23 = 1 := by kernel_rfl
theorem JA : Tryz.prog.cellsOf 25 = 5 := by kernel_rfl
theorem Wk : ∀ {l : List Ex}, (∀ x ∈ l, x.thin) → Ex.Zt l
 | [], _ => by rw [Ex.Zt]; trivial
 | x :: l, h => by rw [Ex.Zt]; exact ⟨h x (by simp), Wk fun y hy => h y (by simp [hy])⟩
theorem YB {W : World} : ∀ (fuel : Nat) {cs : List Value}, TwN Tryz.prog W fuel 25 cs →
  ∃ (x : Ex) (v : Value), x.thin ∧ cs = [.int .u8 x.kind, .string ⟨x.rat.toArray⟩, .string ⟨x.name.toArray⟩, .int .i64 x.date, v] ∧ v.oneCell' = true ∧ Rep E0 W (.sl x.sub.length 5 x.deep) [] v := by
 intro fuel
 induction fuel using Nat.strongRecOn with
 | ind fuel ih =>
  intro cs h
  obtain ⟨hl, n, hn, hf⟩ := Ve Tryz.underlying25 h
  rw [JA] at hl
  match cs, hl with
  | [a, b, c, d, e], _ =>
   have h0 : TwN Tryz.prog W n 5 (([a, b, c, d, e].drop 0).take (Tryz.prog.cellsOf 5)) := hf 0 _ rfl
   rw [US] at h0
   replace h0 : TwN Tryz.prog W n 5 [a] := h0
   have h1 : TwN Tryz.prog W n 22 (([a, b, c, d, e].drop 1).take (Tryz.prog.cellsOf 22)) := hf 1 _ rfl
   rw [Qj] at h1
   replace h1 : TwN Tryz.prog W n 22 [b] := h1
   have h2 : TwN Tryz.prog W n 9 (([a, b, c, d, e].drop 2).take (Tryz.prog.cellsOf 9)) := hf 2 _ rfl
   rw [kI] at h2
   replace h2 : TwN Tryz.prog W n 9 [c] := h2
   have h3 : TwN Tryz.prog W n 3 (([a, b, c, d, e].drop 3).take (Tryz.prog.cellsOf 3)) := hf 3 _ rfl
   rw [yM] at h3
   replace h3 : TwN Tryz.prog W n 3 [d] := h3
   have h4 : TwN Tryz.prog W n 23 (([a, b, c, d, e].drop 4).take (Tryz.prog.cellsOf 23)) := hf 4 _ rfl
   rw [zab] at h4
   replace h4 : TwN Tryz.prog W n 23 [e] := h4
   obtain ⟨k, e0, _⟩ := uC Tryz.underlying5 h0.tw
   obtain ⟨r, e1, w1⟩ := yB Tryz.underlying22 h1.tw
   obtain ⟨m, e2, w2⟩ := yB Tryz.underlying9 h2.tw
   obtain ⟨z, e3, _⟩ := uC Tryz.underlying3 h3.tw
   obtain ⟨l, v, e4, gl, _, hone, hr⟩ := VA Ex.nil (fun x => Ex.cell x.kind x.rat x.name x.date x.sub.length x.deep) Ex.thin Tryz.underlying23 JA (by decide) (fun n' cs' hn' h' => by
    obtain ⟨x, v, hx, rfl, hv, hr⟩ := ih n' (by omega) h'
    refine ⟨x, hx, fun o ho => ?_⟩
    match o, ho with
    | 0, _ => exact ⟨_, rfl, rfl, by simp [Ex.cell, Rep]⟩
    | 1, _ => exact ⟨_, rfl, rfl, by simp [Ex.cell, Rep]⟩
    | 2, _ => exact ⟨_, rfl, rfl, by simp [Ex.cell, Rep]⟩
    | 3, _ => exact ⟨_, rfl, rfl, by simp [Ex.cell, Rep]⟩
    | 4, _ => exact ⟨v, rfl, hv, hr⟩) h4
   cases e0; cases e1; cases e2; cases e3; cases e4
   have hb : reachBytes ≤ 2 ^ 48 := by decide
   refine ⟨.mk k r m z l, _, ?_, rfl, hone, ?_⟩
   ·rw [Ex.thin]; exact ⟨Nat.le_trans w1 hb, Nat.le_trans w2 hb, Wk gl⟩
   ·have hq := Ex.jf (.mk k r m z l)
    simp only [Ex.sub] at hq ⊢
    simp only [Rep] at hr ⊢
    obtain ⟨a, cap, hv, hle, hcase⟩ := hr
    refine ⟨a, cap, hv, hle, hcase.imp id fun ⟨ad, g1, g2, g3⟩ => ⟨ad, g1, g2, fun j o hj ho => ?_⟩⟩
    obtain ⟨g4, c, g5, g6, g7⟩ := g3 j o hj ho
    refine ⟨g4, c, g5, g6, ?_⟩
    rw [hq j o hj ho]
    exact g7
theorem vN {W : World} {cs : List Value} (h : Tw Tryz.prog W 25 cs) : ∃ x : Ex, x.thin ∧ Rep E0 W x.exA [] (.agg cs.toArray) := by
 obtain ⟨fuel, h⟩ := h.twn
 obtain ⟨x, v, hx, rfl, _, hr⟩ := YB fuel h
 refine ⟨x, hx, ?_⟩
 have hq := Ex.jf x
 have hr2 : Rep E0 W (Ex.exS x.sub) [] v := by
  simp only [Ex.exS, Rep] at hr ⊢
  obtain ⟨a, cap, hv, hle, hcase⟩ := hr
  refine ⟨a, cap, hv, hle, hcase.imp id fun ⟨ad, g1, g2, g3⟩ => ⟨ad, g1, g2, fun j o hj ho => ?_⟩⟩
  obtain ⟨g4, c, g5, g6, g7⟩ := g3 j o hj ho
  exact ⟨g4, c, g5, g6, by rw [← hq j o hj ho]; exact g7⟩
 simp only [Ex.exA, Rep, RepL]
 exact ⟨_, rfl, _, _, rfl, rfl, _, _, rfl, rfl, _, _, rfl, rfl, _, _, rfl, rfl, _, _, rfl, hr2, rfl⟩
end Go.Proofs.YtlplmejjddgkoaaGreatDoor
end

/- For every input the law returns true, and each argument reads behind the call as it read before. -/
section
set_option maxRecDepth 100000
namespace Go.Proofs.YtlplmejjddgkoaaGreatDoor
open Go Go.Sx Go.Nov Go.Proofs.Tryz Go.ChangeShapes Go.WideShapes Go.ChangeAt Go.RowKit
theorem J8 : Tryz.prog.cellsOf 57 = 1 := by kernel_rfl
theorem zas : Tryz.prog.cellsOf 98 = 1 := by kernel_rfl
theorem zan : Tryz.prog.cellsOf 100 = 2 := by kernel_rfl
def shpE (H : Type) : List (Lit × DataW H) := shpL.map fun p => (.int .u8 p.1, .agg [.slice (p.2.1.map fun z => .lit (.int .u8 z)) [], .lit (.int .u8 p.2.2)])
theorem zd4 : ∀ p ∈ shpL, yf p.1 = some p.2 ∧ p.2.1 ≠ [] := by decide
theorem zcn {k : Int} (h : qP k = true) : ∃ q, (k, q) ∈ shpL := by
 unfold qP yf at h
 rw [Option.isSome_map] at h
 obtain ⟨p, hp⟩ := Option.isSome_iff_exists.1 h
 have h1 := List.find?_some hp
 have h2 := List.mem_of_find?_eq_some hp
 have : p.1 = k := by simpa using h1
 exact ⟨p.2, by rw [← this]; exact h2⟩
theorem VH {W : World} {cs : List Value} {fuel : Nat} {q : List MemPlace} {c : Value} (hc : W.cell? ⟨1, 0, none⟩ = some c)
  (h : DataW.trod (fun _ => ()) Tryz.prog W 0 (fun _ => true) false fuel 102 [c] = some (.map (shpE Unit), q)) :
  Rep E0 W (.mp .u8 true 2 [] (fun k => qP k) fun k o => match o with
   | 0 => .sl (ja k) 1 fun j _ => .int .u8 (qt k j)
   | _ => .int .u8 (qK k)) [] c ∧ ∀ b, c = .map (some b) → b < W.heap.size := by
 refine K1 (g := 1) rfl Tryz.underlying102 Tryz.underlying5 hc (by decide) h ?_ ?_
 ·intro n d hd
  obtain ⟨p, hp, he⟩ := List.mem_map.1 hd
  obtain ⟨h1, h2⟩ := zd4 p hp
  simp only [Prod.mk.injEq, Lit.int.injEq, true_and] at he
  obtain ⟨rfl, rfl⟩ := he
  refine ⟨by simp [qP, h1], fun v m q' hf ht => ?_⟩
  obtain ⟨xs, n', _, hx, hl, hlen, hfs⟩ := DataW.trod_struct Tryz.underlying100 ht
  rw [zan] at hl
  cases v with
  | agg cs =>
   simp only [Value.cells] at hl hfs
   obtain ⟨cs⟩ := cs
   simp only at hl hfs
   match cs, hl with
   | [a, b], _ =>
    have f0 : DataW.trod _ Tryz.prog W 0 _ false n' 98 (([a, b].drop 0).take (Tryz.prog.cellsOf 98)) = xs[0]? := hfs 0 _ rfl
    have f1 : DataW.trod _ Tryz.prog W 0 _ false n' 57 (([a, b].drop 1).take (Tryz.prog.cellsOf 57)) = xs[1]? := hfs 1 _ rfl
    rw [zas] at f0
    rw [J8] at f1
    match xs, hlen with
    | [x0, x1], _ =>
     simp only [List.map_cons, List.map_nil, Prod.mk.injEq, DataW.agg.injEq, List.cons.injEq, and_true] at hx
     obtain ⟨⟨hx0, hx1⟩, _⟩ := hx
     have f0 : DataW.trod _ Tryz.prog W 0 _ false n' 98 [a] = some x0 := f0
     have f1 : DataW.trod _ Tryz.prog W 0 _ false n' 57 [b] = some x1 := f1
     obtain ⟨x0a, x0b⟩ := x0
     obtain ⟨x1a, x1b⟩ := x1
     simp only at hx0 hx1
     subst hx0; subst hx1
     obtain ⟨c0, e0, _, hr⟩ := za9 Tryz.underlying98 Tryz.underlying57 J8 h2 f0
     cases e0
     obtain ⟨z, e1, e2, _⟩ := DataW.trod_int Tryz.underlying57 f1
     cases e1
     simp only [Prod.mk.injEq, DataW.lit.injEq, Lit.int.injEq, true_and] at e2
     refine ⟨[a, .int .u8 z], rfl, rfl, fun o ho => ?_⟩
     have g1 : qN p.1 = p.2.1 := by simp [qN, h1]
     have g2 : qK p.1 = p.2.2 := by simp [qK, h1]
     match o, ho with
     | 0, _ =>
      refine ⟨a, rfl, ?_⟩
      show Rep E0 W (.sl (ja p.1) 1 fun j _ => .int .u8 (qt p.1 j)) [] a
      unfold ja qt
      rw [g1]
      exact hr
     | 1, _ =>
      refine ⟨_, rfl, ?_⟩
      show Rep E0 W (.int .u8 (qK p.1)) [] _
      simp only [Rep]
      rw [g2, e2.1]
  | _ => simp [Value.formed, Tryz.underlying100] at hf
 ·intro n hn
  obtain ⟨q', hq⟩ := zcn hn
  exact ⟨_, List.mem_map.2 ⟨_, hq, rfl⟩⟩
end Go.Proofs.YtlplmejjddgkoaaGreatDoor
end

/- What the package-level variables hold when a law begins. -/
section
set_option maxRecDepth 100000
namespace Go.Proofs.YtlplmejjddgkoaaGreatDoor
open Go Go.Sx Go.Nov Go.Proofs.Tryz Go.ChangeShapes Go.WideShapes Go.ChangeAt Go.RowKit
theorem zcz : Tryz.prog.globalNamed "novation/observable.shapes" = some 1 := by kernel_rfl
theorem zc8 : (Tryz.prog.globals[1]?).map (·.type) = some 102 := by kernel_rfl
theorem zc9 : (Rows.laid_novation_observable_shapes : DataW Unit) = .map (shpE Unit) := rfl
theorem WB {W : World} (h : laidMet Tryz.prog [("novation/observable.shapes", Rows.laid_novation_observable_shapes)] W) : ∃ c, W.cell? ⟨1, 0, none⟩ = some c ∧
  Rep E0 W (.mp .u8 true 2 [] (fun k => qP k) fun k o => match o with
   | 0 => .sl (ja k) 1 fun j _ => .int .u8 (qt k j)
   | _ => .int .u8 (qK k)) [] c ∧ ∀ b, c = .map (some b) → b < W.heap.size := by
 obtain ⟨ps, ⟨g0, t0, cs0, f0, p0, q0, hg0, ht0, hv0, hd0, _, _⟩, _, _⟩ := h
 obtain rfl := Option.some.inj (zcz.symm.trans hg0)
 obtain rfl := Option.some.inj (zc8.symm.trans ht0)
 rw [zc9] at hd0
 have hone : ∃ c, cs0.toList = [c] := by
  rcases Go.WideElems.open_map Tryz.underlying102 hd0 with ⟨hcs, _⟩ | ⟨b, es, clock, n, _, hcs, _⟩
  ·exact ⟨_, hcs⟩
  ·exact ⟨_, hcs⟩
 obtain ⟨c, hcs⟩ := hone
 rw [hcs] at hd0
 have hcell : W.cell? ⟨1, 0, none⟩ = some c := by
  have := World.var?_cell hg0 hv0 0
  rw [Array.eq_one_of_toList hcs] at this
  simpa using this
 obtain ⟨h1, h2⟩ := VH (cs := [c]) hcell hd0
 exact ⟨c, hcell, h1, h2⟩
theorem gOps : Tryz.prog.globalNamed "novation/observable.operations" = some 0 := by kernel_rfl
theorem tOps : (Tryz.prog.globals[0]?).map (·.type) = some 83 := by kernel_rfl
def opNm (b : List UInt8) : List UInt8 := [40, 42, 110, 111, 118, 97, 116, 105, 111, 110, 47, 111, 98, 115, 101, 114, 118, 97, 98, 108, 101, 46, 115, 116, 97, 116, 101, 41, 46] ++ b
def opEs : List (Lit × DataW (List UInt8)) := [(.int .u8 4, .held (opNm [97, 100, 100])), (.int .u8 5, .held (opNm [115, 117, 98])), (.int .u8 6, .held (opNm [109, 117, 108])), (.int .u8 7, .held (opNm [103, 114, 101, 97, 116, 101, 114])), (.int .u8 8, .held (opNm [115, 109, 97, 108, 108, 101, 114]))]
abbrev Q5 : List (String × DataW Unit) := [("novation/observable.shapes", Rows.laid_novation_observable_shapes), ("novation/observable.operations", Rows.laid_novation_observable_operations)]
def opsD : DataW Unit := .map [(.int .u8 4, .iface "func" (.lit (.string (opNm [97, 100, 100])))), (.int .u8 5, .iface "func" (.lit (.string (opNm [115, 117, 98])))), (.int .u8 6, .iface "func" (.lit (.string (opNm [109, 117, 108])))), (.int .u8 7, .iface "func" (.lit (.string (opNm [103, 114, 101, 97, 116, 101, 114])))), (.int .u8 8, .iface "func" (.lit (.string (opNm [115, 109, 97, 108, 108, 101, 114]))))]
theorem zd5 : (Rows.laid_novation_observable_operations : DataW Unit) = .iface "func table" opsD := rfl
theorem UX : opsD.funcsOut = .map opEs := rfl
theorem zde {W : World} {cs : List Value} {fuel : Nat} {q : List MemPlace} {c : Value} (hc : W.cell? ⟨0, 0, none⟩ = some c)
  (h : DataW.trod (funcToken Tryz.prog) Tryz.prog W 0 (fun _ => true) true fuel 83 [c] = some (.map opEs, q)) :
  Rep E0 W (.mp .u8 false 1 [4, 5, 6, 7, 8] (fun k => decide (4 ≤ k ∧ k ≤ 8)) fun k _ =>
  if k = 4 then .fn 167 [] [] else if k = 5 then .fn 168 [] [] else if k = 6 then .fn 169 [] []
  else if k = 7 then .fn 170 [] [] else .fn 171 [] []) [] c ∧ ∀ b, c = .map (some b) → b < W.heap.size := by
 refine K1 (g := 0) rfl Tryz.underlying83 Tryz.underlying5 hc (by decide) h ?_ ?_
 ·intro n d hd
  have one : ∀ {v : Value} {m : Nat} {q : List MemPlace} {bs : List UInt8} {f0 : Nat}, ((List.range Tryz.prog.funcs.size).filter fun f => (Tryz.prog.funcs[f]?).any (·.name.toUTF8.data.toList == 40 :: bs)) = [f0] →
    v.formed Tryz.prog 82 = true → DataW.trod (funcToken Tryz.prog) Tryz.prog W 0 (fun _ => true) true m 82 v.cells.toList = some (.held (40 :: bs), q) → Rep E0 W (.fn f0 [] []) [] v := by
   intro v m q bs f0 hone hf ht
   have hcell : v.cells.toList = [v] := by
    cases v with
    | agg _ => simp [Value.formed, Tryz.underlying82] at hf
    | _ => rfl
   rw [hcell] at ht
   have := func_of_trod Tryz.underlying82 hone ht
   subst this
   simp [Rep, RepL]
  simp only [opEs, List.mem_cons, Prod.mk.injEq, Lit.int.injEq, true_and, List.not_mem_nil, or_false] at hd
  rcases hd with ⟨rfl, rfl⟩ | ⟨rfl, rfl⟩ | ⟨rfl, rfl⟩ | ⟨rfl, rfl⟩ | ⟨rfl, rfl⟩
  ·exact ⟨rfl, fun v m q hf ht => one (f0 := 167) (by kernel_rfl) hf ht⟩
  ·exact ⟨rfl, fun v m q hf ht => one (f0 := 168) (by kernel_rfl) hf ht⟩
  ·exact ⟨rfl, fun v m q hf ht => one (f0 := 169) (by kernel_rfl) hf ht⟩
  ·exact ⟨rfl, fun v m q hf ht => one (f0 := 170) (by kernel_rfl) hf ht⟩
  ·exact ⟨rfl, fun v m q hf ht => one (f0 := 171) (by kernel_rfl) hf ht⟩
 ·intro n hn
  have hn := of_decide_eq_true hn
  have : n = 4 ∨ n = 5 ∨ n = 6 ∨ n = 7 ∨ n = 8 := by omega
  rcases this with rfl | rfl | rfl | rfl | rfl
  ·exact ⟨_, .head _⟩
  ·exact ⟨_, .tail _ (.head _)⟩
  ·exact ⟨_, .tail _ (.tail _ (.head _))⟩
  ·exact ⟨_, .tail _ (.tail _ (.tail _ (.head _)))⟩
  ·exact ⟨_, .tail _ (.tail _ (.tail _ (.tail _ (.head _))))⟩
theorem zbr {W : World} (h : laidMetH Tryz.prog Q5 W) : wJ E0 W := by
 have h1 : laidMet Tryz.prog [("novation/observable.shapes", Rows.laid_novation_observable_shapes)] W := h.1
 have h2 := laidMetH.funcs h (n := "novation/observable.operations") (d := opsD) (by simp [Q5, zd5])
 obtain ⟨c1, k1, r1, b1⟩ := WB h1
 obtain ⟨g0, t0, cs0, f0, p0, hg0, ht0, hv0, hd0⟩ := h2
 obtain rfl := Option.some.inj (gOps.symm.trans hg0)
 obtain rfl := Option.some.inj (tOps.symm.trans ht0)
 rw [UX] at hd0
 have hone : ∃ c, cs0.toList = [c] := by
  rcases Go.WideElems.open_map Tryz.underlying83 hd0 with ⟨hcs, _⟩ | ⟨b, es, clock, n, _, hcs, _⟩
  ·exact ⟨_, hcs⟩
  ·exact ⟨_, hcs⟩
 obtain ⟨c2, hcs⟩ := hone
 rw [hcs] at hd0
 have k2 : W.cell? ⟨0, 0, none⟩ = some c2 := by
  have := World.var?_cell hg0 hv0 0
  rw [Array.eq_one_of_toList hcs] at this
  simpa using this
 obtain ⟨r2, b2⟩ := zde (cs := [c2]) k2 hd0
 refine ⟨fun g a hz => ⟨Qc _, ?_⟩⟩
 by_cases hg : g = 1
 ·subst hg
  cases hz
  exact ⟨c1, k1, r1, b1⟩
 ·by_cases hg2 : g = 0
  ·subst hg2
   cases hz
   exact ⟨c2, k2, r2, b2⟩
  ·have : Stat.z g = none := by
    show (if _ then _ else if _ then _ else _) = _
    rw [if_neg hg, if_neg hg2]
   rw [this] at hz; cases hz
end Go.Proofs.YtlplmejjddgkoaaGreatDoor
end

/- For every input the law returns true, and each argument reads behind the call as it read before. -/
section
set_option maxRecDepth 100000
namespace Go.Proofs.YtlplmejjddgkoaaGreatDoor
open Go Go.Sx Go.Nov Go.Proofs.Tryz Go.ChangeShapes Go.WideShapes Go.ChangeAt Go.RowKit
theorem walk {W : World} {v0 v1 v2 : List Value} (h0 : Tw Tryz.prog W 25 v0) (h1 : Tw Tryz.prog W 3 v1) (h2 : Tw Tryz.prog W 29 v2) (hst : wJ E0 W) :
  ∃ s1 : Value, v1 = [s1] ∧ Calls Tryz.prog 3 #[.agg v0.toArray, s1, .agg v2.toArray] W fun e W' => e = .returned (.bool true) ∧ Below W.heap.size W W' := by
 obtain ⟨x, xg, xr⟩ := vN h0
 obtain ⟨day, rfl, dayg, dayr⟩ := zcc h1
 obtain ⟨v, vg, vr⟩ := zdk h2
 refine ⟨_, rfl, ?_⟩
 refine X3 (fn := Tryz.f3) (c := Tryz.f3.body.getD .skip) rfl rfl rfl zcw (args := [x.exA, .int .i64 day, envA v.1 v.2]) (vals := [.agg v0.toArray, .int .i64 day, .agg v2.toArray]) ?_ ?_ hst
 ·refine ⟨(x, day, v), ⟨?_, ⟨xg, dayg, vg⟩⟩, ⟨true, rfl⟩, ?_⟩
  ·simp [eqL, eqA, eqA0, eqL0, envA, fxS, chS, Fx.av, Ch.av, Ex.exA, Ex.exS, za]
  ·rintro _ rfl
   rfl
 ·exact ⟨_, _, rfl, xr, ⟨_, _, rfl, dayr, ⟨_, _, rfl, vr, rfl⟩⟩⟩
theorem own : ownKnob Tryz.prog.godebug = none := by kernel_rfl
theorem laid : laidOutB Tryz.prog = true := by kernel_rfl
theorem U9 (os : Os) (args : Array Value) : laidMetH Tryz.prog Q5 ((World.doorLaid Tryz.prog 400 os).forCall (fun _ _ => 0) ⟨#[], args, []⟩).memory :=
 laidMetH_of_parts3 (fuel := 8) (laidMet_of_run' 8 (by kernel_rfl) (by kernel_rfl)) (by kernel_rfl) (by kernel_rfl)
theorem lifted (os : Os) (started : os.Started) (H : Type) (enc : TypeId × Value → H) :
  ReturnsInHanded {} Tryz.checked os 3 .any (fun w args => (Rows.observableValuesSpec.pre enc Tryz.prog Tryz.f3 [] false w args ∧ laidMetH Tryz.prog Q5 w) ∧ sizedMet enc Tryz.prog Tryz.f3 (OpenSpec.ofChange Rows.observableValuesSpec) false w args)
   (Rows.observableValuesSpec.post enc Tryz.prog Tryz.f3 false true false false) := by
 refine returnsInHanded_of_change_and (C := Tryz.checked) (X := fun w _ => laidMetH Tryz.prog Q5 w) (fun _ _ _ hh h => h.of_heap hh) own started (by kernel_rfl) Tryz.func3
  (ChangeSpec.witness_shaped (enc := enc) (C := Tryz.checked) (os := os) (X := fun w _ => laidMetH Tryz.prog Q5 w) false (World.doorLaid Tryz.prog 400 os) #[.agg #[.int .u8 0, .string ⟨#[]⟩, .string ⟨#[]⟩, .int .i64 0, .slice none 0 0], .int .i64 0, .agg #[.slice none 0 0, .slice none 0 0]] 8 rfl (World.shaped_of_RefB (by kernel_rfl) (by kernel_rfl)) (by kernel_rfl) (by kernel_rfl) (by kernel_rfl) (U9 os _)) ?_
 intro W base args ds gs before hval0 hW hcnd hwt hL _
 have hval : ∀ (j : Nat) t v, Tryz.f3.params[j]? = some t → args[j]? = some v → Value.okWide Tryz.prog W .any base t v := hval0
 have hW' := hW
 obtain ⟨p, q, hA0, hV, rfl, hfz, hnd⟩ := hW
 have hA : DataW.TrodAll enc Tryz.prog W 0 (fun _ => true) true Tryz.f3.params.toList args.toList ds p := hA0
 rw [Tryz.params3] at hA hval
 obtain ⟨v0, vs0, d0, ds0, p0, q0, hargs, rfl, rfl, h0, r0⟩ := trodAll_cons hA
 obtain ⟨v1, vs1, d1, ds1, p1, q1, rfl, rfl, rfl, h1, r1⟩ := trodAll_cons r0
 obtain ⟨v2, vs2, d2, ds2, p2, q2, rfl, rfl, rfl, h2, r2⟩ := trodAll_cons r1
 obtain ⟨rfl, rfl, rfl⟩ := trodAll_nil r2
 obtain rfl : args = #[v0, v1, v2] := by cases args; simp_all
 obtain ⟨rfl, rfl⟩ := trodVars_none hV
 clear hA0 hval0
 simp only [List.append_nil] at hW' hwt
 have hw : ∀ (j : Nat) (t : TypeId) (d : DataW H), [25, 3, 29][j]? = some t → [d0, d1, d2][j]? = some d → ∀ n ∈ d.weights Tryz.prog t, n ≤ reachBytes := fun j t d ht hd n hn => by
  have := List.all_eq_true.1 hwt n (DataW.weights_mem_each (j := j) (t := t) (d := d) (by exact ht) (by exact hd) n hn)
  simpa using this
 obtain ⟨c0, rfl, _⟩ := okWide_struct Tryz.underlying25 (hval 0 25 v0 rfl rfl)
 obtain ⟨c1, rfl⟩ := okWide_int Tryz.underlying3 (hval 1 3 v1 rfl rfl)
 obtain ⟨c2, rfl, _⟩ := okWide_struct Tryz.underlying29 (hval 2 29 v2 rfl rfl)
 have t0 : Tw Tryz.prog W 25 c0.toList := by
  obtain ⟨fuel, hf⟩ := h0
  exact ⟨H, enc, 0, fuel, d0, p0, by simpa [Value.cells] using hf, hw 0 _ d0 rfl rfl⟩
 have t1 : Tw Tryz.prog W 3 [.int .i64 c1] := by
  obtain ⟨fuel, hf⟩ := h1
  exact ⟨H, enc, 0, fuel, d1, p1, by simpa [Value.cells] using hf, hw 1 _ d1 rfl rfl⟩
 have t2 : Tw Tryz.prog W 29 c2.toList := by
  obtain ⟨fuel, hf⟩ := h2
  exact ⟨H, enc, 0, fuel, d2, p2, by simpa [Value.cells] using hf, hw 2 _ d2 rfl rfl⟩
 have hlt : ∀ x ∈ p0 ++ (p1 ++ p2), x.block < W.heap.size := fun x hx => by simpa using hW'.lt x (by simpa using hx)
 obtain ⟨s1, e1, hcall⟩ := walk t0 t1 t2 (zbr hL)
 cases e1
 simp only [Array.toArray_toList] at hcall
 refine hcall.mono fun e W' ⟨he, hb⟩ => ?_
 subst he
 refine ⟨_, rfl, _, _, _, [], p0 ++ (p1 ++ p2), [], hW', trodAll_mk1 (shut_bool Tryz.underlying4 true), ?_, rfl, hb.frame _, fun h => by cases h⟩
 exact trodAll_mk3 (Below.trod laid (by kernel_rfl) (of_decide_eq_true (by kernel_rfl)) h0 hb fun x hx => hlt x (by simp [hx])) (Below.trod laid (by kernel_rfl) (of_decide_eq_true (by kernel_rfl)) h1 hb fun x hx => hlt x (by simp [hx])) (Below.trod laid (by kernel_rfl) (of_decide_eq_true (by kernel_rfl)) h2 hb fun x hx => hlt x (by simp [hx]))
theorem over : Rows.observableValuesRow.holds Tryz.pinned (OpenSpec.ofChange Rows.observableValuesSpec) :=
 OpenClaim.holds_of_wide 3 Tryz.f3 rfl rfl rfl rfl rfl rfl rfl ⟨rfl, rfl, rfl, rfl, rfl⟩ rfl rfl rfl rfl rfl (by kernel_rfl) Tryz.func3 (by kernel_rfl)
  (of_decide_eq_true (by kernel_rfl)) (by unfold Func.isWrapper; first | (rw [if_pos (by decide +kernel)]; kernel_rfl) | (rw [if_neg (by decide +kernel)]; exact ⟨rfl, rfl⟩))
  (fun os started H enc _ => lifted os started H enc)
theorem vZ : Rows.ObservableValuesSaid := over
theorem observableValues_holds : Rows.ObservableValuesCardSaid :=
 Claim7.holds_tied_plain_at .later [] [.mappedDeep,.funcs] true (true, "5ab9f8b4439949231cf56cb542ed370275bade9fa4bda34009183e609a9ec360") false
  vZ (fun _ h => by cases h) (by kernel_rfl) (fun _ h => by cases h) observableValues_row_tie rfl ⟨rfl, rfl⟩ (by kernel_rfl) rfl
  (fun f fn hf hfn => by
   obtain rfl : f = 3 := Option.some.inj ((show Tryz.prog.funcNamed "novation/novationlaw08.ObservableValues" = some 3 by kernel_rfl).symm.trans hf) |>.symm
   obtain rfl : fn = Tryz.f3 := (Option.some.inj (Tryz.func3.symm.trans hfn)).symm
   exact ⟨by kernel_rfl, fun j t ht => by
    rw [Tryz.params3] at ht
    have hm : t ∈ [25, 3, 29] := by simpa using Array.mem_of_getElem? ht
    have hall : ([25, 3, 29].all fun u => !Tryz.prog.wantsStandIn u) = true := by kernel_rfl
    exact (show Tryz.prog.wantsStandIn t = false by simpa using List.all_eq_true.1 hall t hm)⟩)
  (by kernel_rfl)
end Go.Proofs.YtlplmejjddgkoaaGreatDoor
end
