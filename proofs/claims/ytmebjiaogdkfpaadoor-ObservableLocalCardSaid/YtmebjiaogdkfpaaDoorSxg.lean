/- The law returns true for every input, and each argument reads afterwards as it read before; no condition. -/
import Derived.Test.YtmebjiaogdkfpaaDoorSxb
import Derived.Test.YtmebjiaogdkfpaaDoorSxf
import Derived.SizedLaws
import Derived.ChangeArms
import Derived.Deep.Slices
import Derived.Carry
import Derived.LaidMore
import Derived.WideKeyElems2
import Derived.ProofKit
import Derived.OpenShut
import Derived.ReadAgain
import Derived.Test.YtmebjiaogdkfpaaDoorRows
import Derived.MakeChecks
import Derived.Test.YtmebjiaogdkfpaaDoorCards
import Derived.Test.YtmebjiaogdkfpaaDoorTie
import Derived.Stop.Joined
import Derived.SevenTiedAt
set_option linter.unusedVariables false
set_option linter.unusedSimpArgs false
set_option linter.unusedSectionVars false

/- Evaluation: values and truth values. -/
section
set_option maxRecDepth 100000
open Go Go.Sx Go.Proofs Go.Nov
namespace Go.Proofs.Tryd
attribute [local simp] eqKV eqA eqA0 eqH eqB eqL eqL0
theorem Xm {X R Y S : Type} {P : Program} {g h : Nat} {fr mo fr' mo' : Bool} {inp : X → List AV} {hin : X → Heap} {pre : X → Prop} {post : X → R → Prop} {out : X → R → AV × Heap} {inp' : Y → List AV} {hin' : Y → Heap} {pre' : Y → Prop} {post' : Y → S → Prop} {out' : Y → S → AV × Heap} (μ : X → Nat) (ν : Y → Nat)
  (step : ∀ n, zb P g (ctrT fr mo inp hin (fun x => μ x < n ∧ pre x) post out) → zb P h (ctrT fr' mo' inp' hin' (fun y => ν y < n ∧ pre' y) post' out') →
   zb P g (ctrT fr mo inp hin (fun x => μ x < n + 1 ∧ pre x) post out) ∧ zb P h (ctrT fr' mo' inp' hin' (fun y => ν y < n + 1 ∧ pre' y) post' out')) :
  zb P g (ctrT fr mo inp hin pre post out) ∧ zb P h (ctrT fr' mo' inp' hin' pre' post' out') := by
 have all : ∀ n, zb P g (ctrT fr mo inp hin (fun x => μ x < n ∧ pre x) post out) ∧ zb P h (ctrT fr' mo' inp' hin' (fun y => ν y < n ∧ pre' y) post' out') := by
  intro n
  induction n with
  | zero =>
   constructor
   ·intro args hc Q hq _
    obtain ⟨x, ⟨_, _, _, h, _⟩, _⟩ := hq
    exact absurd h (Nat.not_lt_zero _)
   ·intro args hc Q hq _
    obtain ⟨x, ⟨_, _, _, h, _⟩, _⟩ := hq
    exact absurd h (Nat.not_lt_zero _)
  | succ n ih => exact step n ih.1 ih.2
 constructor
 ·intro args hc Q hq hf
  obtain ⟨x, ⟨h1, h2, h3, h4⟩, h5⟩ := hq
  exact (all (μ x + 1)).1 args hc Q ⟨x, ⟨h1, h2, h3, Nat.lt_succ_self _, h4⟩, h5⟩ hf
 ·intro args hc Q hq hf
  obtain ⟨x, ⟨h1, h2, h3, h4⟩, h5⟩ := hq
  exact (all (ν x + 1)).2 args hc Q ⟨x, ⟨h1, h2, h3, Nat.lt_succ_self _, h4⟩, h5⟩ hf
structure VX where
 s : St8
 x : Ex
def evA (k : VX) : Ev := k.x.ev k.s.f k.s.day
def valC (p : VX → Prop) : Ctr := ctrT false false (fun k : VX => [.ptr 0 0, k.x.exA]) (fun k => [k.s.box]) p (fun k r => (k.s.e ≠ 0 → r.2 = k.s.e) ∧ (k.s.e = 0 → r.2 = (evA k).e ∧ (r.2 = 0 → r.1 = (evA k).v))) (fun k (r : List UInt8 × Int) => (.str r.1, [(k.s.err r.2).box]))
def hldC (p : VX → Prop) : Ctr := ctrT false false (fun k : VX => [.ptr 0 0, k.x.exA]) (fun k => [k.s.box]) p (fun k r => (k.s.e ≠ 0 → r.2 = k.s.e) ∧ (k.s.e = 0 → r.2 = (evA k).g ∧ (r.2 = 0 → r.1 = (evA k).b))) (fun k (r : Bool × Int) => (.bool r.1, [(k.s.err r.2).box]))
def VPre (z : Int) (k : VX) : Prop := k.s.e = 0 → k.x.zt = z ∧ k.s.f.all okF = true ∧ k.s.f.length < 2 ^ 40
def GVa (n : Nat) : Nat → Option Ctr := fun f => if f = 34 then some (valC fun k => k.x.size < n ∧ VPre 1 k) else if f = 40 then some (hldC fun k => k.x.size < n ∧ VPre 2 k)
 else if f = 55 then some fixC else if f = 65 then some Yi else if f = 56 then some W6
 else if f = 128 then some (sopC addR true) else if f = 129 then some (sopC subR true) else if f = 130 then some (sopC mulR true) else if f = 131 then some (sopC (j6 7) false) else if f = 132 then some (sopC (j6 8) false) else none
theorem YQ {n : Nat} (h1 : zb Tryd.prog 34 (valC fun k => k.x.size < n ∧ VPre 1 k)) (h2 : zb Tryd.prog 40 (hldC fun k => k.x.size < n ∧ VPre 2 k)) : ∀ f c, GVa n f = some c → zb Tryd.prog f c := by
 intro f c hf
 unfold GVa at hf
 iterate 10
  split at hf
  ·rename_i hg; subst hg; cases hf; first | exact h1 | exact h2 | exact Xq | exact VG | exact Js | exact zb2 | exact zbb | exact zbh | exact JT | exact J2
 cases hf
theorem eqX2 (x : Ex) : eqL [.ptr 0 0, .agg [.int .u8 x.kind, .str x.rat, .str x.name, .int .i64 x.date, .sl x.sub.length 5 x.deep]] [.ptr 0 0, x.exA] := ⟨⟨rfl, rfl⟩, ⟨⟨rfl, rfl⟩, rfl, rfl, ⟨rfl, rfl⟩, ⟨rfl, rfl, Ex.qU _⟩, trivial⟩, trivial⟩
theorem zeq (x : Ex) : eqL [.ptr 0 0, x.exA] [.ptr 0 0, x.exA] := ⟨⟨rfl, rfl⟩, ⟨⟨rfl, rfl⟩, rfl, rfl, ⟨rfl, rfl⟩, ⟨rfl, rfl, za _ _ _⟩, trivial⟩, trivial⟩
theorem RetR.st9 {ctr : Ctr} {Q : AV × Heap → Prop} {rs : List AV} {f : List Fx} {c : List Ch} {day e : Int} {b : Blk} {r : AV} (hf : ctr.fresh = false) (hq : Q (r, [(St8.mk f c day e).box])) (hs : x6 r = true) (hr : resV rs = r) (h2 : exp2 [.box [.sl f.length 3 (fxG f), .sl c.length 4 (chG c), .int .i64 day, .int .i64 e], b] [0] r = r := by rfl) : RetR ctr 1 Q rs [.box [.sl f.length 3 (fxG f), .sl c.length 4 (chG c), .int .i64 day, .int .i64 e], b] := by
 subst hr
 refine RetR.keep [0] rfl rfl (by decide) hf hq ?_ ?_ rfl
 ·rw [h2]; exact ZZ hs
 ·exact qj f c day e
theorem vE (e e0 : Int) (v : List UInt8) : ∃ r : List UInt8 × Int, (e ≠ 0 → r.2 = e) ∧ (e = 0 → r.2 = e0 ∧ (r.2 = 0 → r.1 = v)) := by
 by_cases h : e = 0
 ·exact ⟨(v, e0), fun g => absurd h g, fun _ => ⟨rfl, fun _ => rfl⟩⟩
 ·exact ⟨(v, e), fun _ => rfl, fun g => absurd g h⟩
theorem uG (e e0 : Int) (v : Bool) : ∃ r : Bool × Int, (e ≠ 0 → r.2 = e) ∧ (e = 0 → r.2 = e0 ∧ (r.2 = 0 → r.1 = v)) := by
 by_cases h : e = 0
 ·exact ⟨(v, e0), fun g => absurd h g, fun _ => ⟨rfl, fun _ => rfl⟩⟩
 ·exact ⟨(v, e), fun _ => rfl, fun g => absurd g h⟩
section
variable (n : Nat) (h1 : zb Tryd.prog 34 (valC fun k => k.x.size < n ∧ VPre 1 k)) (h2 : zb Tryd.prog 40 (hldC fun k => k.x.size < n ∧ VPre 2 k))
include h1 h2
theorem Vl : zb Tryd.prog 34 (valC fun k => k.x.size < n + 1 ∧ VPre 1 k) := by
 refine zB (fn := Tryd.f34) (c := Tryd.f34.body.getD .skip) rfl rfl rfl (fun h => by cases h) fun k hk O w0 σ0 Q hl0 hq => ?_
 obtain ⟨⟨f, c, day, e⟩, ⟨k, r, m, d, s⟩⟩ := k
 obtain ⟨hn, hv⟩ := hk
 simp only at hn hv hq
 refine zc.run hmix (YQ h1 h2) [] 400 (T := .ite (!decide (e = 0)) (.leaf (.ret [.str (Array.toList #[])] [.box [.sl f.length 3 (fxG f), .sl c.length 4 (chG c), .int .i64 day, .int .i64 e], .box [.int .u8 k, .str r, .str m, .int .i64 d, .sl s.length 5 (Ex.exG s)]])) (.ite (decide (k = 1)) (.leaf (.ret [.str r] [.box [.sl f.length 3 (fxG f), .sl c.length 4 (chG c), .int .i64 day, .int .i64 e], .box [.int .u8 k, .str r, .str m, .int .i64 d, .sl s.length 5 (Ex.exG s)]])) (.ite (decide (k = 2)) (.ex (fun (x : KS) => eqL [AV.ptr 0 0, AV.str m, AV.int .i64 d] [AV.ptr 0 0, AV.str x.x, AV.int .i64 x.e] ∧ eqH [.box [AV.sl f.length 3 (fxG f), AV.sl c.length 4 (chG c), AV.int .i64 day, AV.int .i64 e]] [.box [AV.sl x.s.f.length 3 (fxG x.s.f), AV.sl x.s.c.length 4 (chG x.s.c), AV.int .i64 x.s.day, AV.int .i64 x.s.e]] ∧ 1 = 1 ∧ x.s.f.length < 1099511627776 ∧ St8.e x.s = 0) fun n => .all (fun (r : List UInt8 × Int) => r = fixR n.s.f n.x n.e) fun n_1 => .leaf (.ret [.str n_1.1] [.box [.sl (List.length (St8.f (n.s.err n_1.2))) 3 (fxG (St8.f (n.s.err n_1.2))), .sl (List.length (St8.c (n.s.err n_1.2))) 4 (chG (St8.c (n.s.err n_1.2))), .int .i64 (St8.day (n.s.err n_1.2)), .int .i64 (St8.e (n.s.err n_1.2))], .box [.int .u8 k, .str r, .str m, .int .i64 d, .sl s.length 5 (Ex.exG s)]])) (.ite (decide (k = 3)) (.ex (fun (x : KS) => eqL [AV.ptr 0 0, AV.str m, AV.int .i64 day] [AV.ptr 0 0, AV.str x.x, AV.int .i64 x.e] ∧ eqH [.box [AV.sl f.length 3 (fxG f), AV.sl c.length 4 (chG c), AV.int .i64 day, AV.int .i64 e]] [.box [AV.sl x.s.f.length 3 (fxG x.s.f), AV.sl x.s.c.length 4 (chG x.s.c), AV.int .i64 x.s.day, AV.int .i64 x.s.e]] ∧ 1 = 1 ∧ x.s.f.length < 1099511627776 ∧ St8.e x.s = 0) fun n => .all (fun (r : List UInt8 × Int) => r = fixR n.s.f n.x n.e) fun n_1 => .leaf (.ret [.str n_1.1] [.box [.sl (List.length (St8.f (n.s.err n_1.2))) 3 (fxG (St8.f (n.s.err n_1.2))), .sl (List.length (St8.c (n.s.err n_1.2))) 4 (chG (St8.c (n.s.err n_1.2))), .int .i64 (St8.day (n.s.err n_1.2)), .int .i64 (St8.e (n.s.err n_1.2))], .box [.int .u8 k, .str r, .str m, .int .i64 d, .sl s.length 5 (Ex.exG s)]])) (.ite (decide (k = 9)) (.side ((0 : Int) ≤ 0 ∧ (0 : Int) < s.length) (.ex (fun (x : VX) => eqL [AV.ptr 0 0, AV.agg [AV.int .u8 (Ex.kind (s.getD 0 Ex.nil)), AV.str (Ex.rat (s.getD 0 Ex.nil)), AV.str (Ex.name (s.getD 0 Ex.nil)), AV.int .i64 (Ex.date (s.getD 0 Ex.nil)), AV.sl (List.length (Ex.sub (s.getD 0 Ex.nil))) 5 (Ex.deep (s.getD 0 Ex.nil))]] [AV.ptr 0 0, AV.agg [AV.int .u8 x.x.kind, AV.str x.x.rat, AV.str x.x.name, AV.int .i64 x.x.date, AV.sl x.x.sub.length 5 (Ex.exG x.x.sub)]] ∧ eqH [.box [AV.sl f.length 3 (fxG f), AV.sl c.length 4 (chG c), AV.int .i64 day, AV.int .i64 e]] [.box [AV.sl x.s.f.length 3 (fxG x.s.f), AV.sl x.s.c.length 4 (chG x.s.c), AV.int .i64 x.s.day, AV.int .i64 x.s.e]] ∧ 1 = 1 ∧ Ex.size x.x < n ∧ VPre (2 : Int) x) fun n_1 => .all (fun (r : Bool × Int) => (St8.e n_1.s ≠ 0 → r.2 = St8.e n_1.s) ∧ (St8.e n_1.s = 0 → r.2 = Ev.g (evA n_1) ∧ (r.2 = 0 → r.1 = Ev.b (evA n_1)))) fun n_2 => .ite n_2.1 (.side ((0 : Int) ≤ 1 ∧ (1 : Int) < s.length) (.ex (fun (x : VX) => eqL [AV.ptr 0 0, AV.agg [AV.int .u8 (Ex.kind (s.getD 1 Ex.nil)), AV.str (Ex.rat (s.getD 1 Ex.nil)), AV.str (Ex.name (s.getD 1 Ex.nil)), AV.int .i64 (Ex.date (s.getD 1 Ex.nil)), AV.sl (List.length (Ex.sub (s.getD 1 Ex.nil))) 5 (Ex.deep (s.getD 1 Ex.nil))]] [AV.ptr 0 0, AV.agg [AV.int .u8 x.x.kind, AV.str x.x.rat, AV.str x.x.name, AV.int .i64 x.x.date, AV.sl x.x.sub.length 5 (Ex.exG x.x.sub)]] ∧ eqH [.box [AV.sl (List.length (St8.f (n_1.s.err n_2.2))) 3 (fxG (St8.f (n_1.s.err n_2.2))), AV.sl (List.length (St8.c (n_1.s.err n_2.2))) 4 (chG (St8.c (n_1.s.err n_2.2))), AV.int .i64 (St8.day (n_1.s.err n_2.2)), AV.int .i64 (St8.e (n_1.s.err n_2.2))]] [.box [AV.sl x.s.f.length 3 (fxG x.s.f), AV.sl x.s.c.length 4 (chG x.s.c), AV.int .i64 x.s.day, AV.int .i64 x.s.e]] ∧ 1 = 1 ∧ Ex.size x.x < n ∧ VPre (1 : Int) x) fun n => .all (fun (r : List UInt8 × Int) => (St8.e n.s ≠ 0 → r.2 = St8.e n.s) ∧ (St8.e n.s = 0 → r.2 = Ev.e (evA n) ∧ (r.2 = 0 → r.1 = Ev.v (evA n)))) fun n_3 => .leaf (.ret [.str n_3.1] [.box [.sl (List.length (St8.f (n.s.err n_3.2))) 3 (fxG (St8.f (n.s.err n_3.2))), .sl (List.length (St8.c (n.s.err n_3.2))) 4 (chG (St8.c (n.s.err n_3.2))), .int .i64 (St8.day (n.s.err n_3.2)), .int .i64 (St8.e (n.s.err n_3.2))], .box [.int .u8 k, .str r, .str m, .int .i64 d, .sl s.length 5 (Ex.exG s)]]))) (.side ((0 : Int) ≤ 2 ∧ (2 : Int) < s.length) (.ex (fun (x : VX) => eqL [AV.ptr 0 0, AV.agg [AV.int .u8 (Ex.kind (s.getD 2 Ex.nil)), AV.str (Ex.rat (s.getD 2 Ex.nil)), AV.str (Ex.name (s.getD 2 Ex.nil)), AV.int .i64 (Ex.date (s.getD 2 Ex.nil)), AV.sl (List.length (Ex.sub (s.getD 2 Ex.nil))) 5 (Ex.deep (s.getD 2 Ex.nil))]] [AV.ptr 0 0, AV.agg [AV.int .u8 x.x.kind, AV.str x.x.rat, AV.str x.x.name, AV.int .i64 x.x.date, AV.sl x.x.sub.length 5 (Ex.exG x.x.sub)]] ∧ eqH [.box [AV.sl (List.length (St8.f (n_1.s.err n_2.2))) 3 (fxG (St8.f (n_1.s.err n_2.2))), AV.sl (List.length (St8.c (n_1.s.err n_2.2))) 4 (chG (St8.c (n_1.s.err n_2.2))), AV.int .i64 (St8.day (n_1.s.err n_2.2)), AV.int .i64 (St8.e (n_1.s.err n_2.2))]] [.box [AV.sl x.s.f.length 3 (fxG x.s.f), AV.sl x.s.c.length 4 (chG x.s.c), AV.int .i64 x.s.day, AV.int .i64 x.s.e]] ∧ 1 = 1 ∧ Ex.size x.x < n ∧ VPre (1 : Int) x) fun n => .all (fun (r : List UInt8 × Int) => (St8.e n.s ≠ 0 → r.2 = St8.e n.s) ∧ (St8.e n.s = 0 → r.2 = Ev.e (evA n) ∧ (r.2 = 0 → r.1 = Ev.v (evA n)))) fun n_3 => .leaf (.ret [.str n_3.1] [.box [.sl (List.length (St8.f (n.s.err n_3.2))) 3 (fxG (St8.f (n.s.err n_3.2))), .sl (List.length (St8.c (n.s.err n_3.2))) 4 (chG (St8.c (n.s.err n_3.2))), .int .i64 (St8.day (n.s.err n_3.2)), .int .i64 (St8.e (n.s.err n_3.2))], .box [.int .u8 k, .str r, .str m, .int .i64 d, .sl s.length 5 (Ex.exG s)]]))))) (.side ((0 : Int) ≤ 0 ∧ (0 : Int) < s.length) (.ex (fun (x : VX) => eqL [AV.ptr 0 0, AV.agg [AV.int .u8 (Ex.kind (s.getD 0 Ex.nil)), AV.str (Ex.rat (s.getD 0 Ex.nil)), AV.str (Ex.name (s.getD 0 Ex.nil)), AV.int .i64 (Ex.date (s.getD 0 Ex.nil)), AV.sl (List.length (Ex.sub (s.getD 0 Ex.nil))) 5 (Ex.deep (s.getD 0 Ex.nil))]] [AV.ptr 0 0, AV.agg [AV.int .u8 x.x.kind, AV.str x.x.rat, AV.str x.x.name, AV.int .i64 x.x.date, AV.sl x.x.sub.length 5 (Ex.exG x.x.sub)]] ∧ eqH [.box [AV.sl f.length 3 (fxG f), AV.sl c.length 4 (chG c), AV.int .i64 day, AV.int .i64 e]] [.box [AV.sl x.s.f.length 3 (fxG x.s.f), AV.sl x.s.c.length 4 (chG x.s.c), AV.int .i64 x.s.day, AV.int .i64 x.s.e]] ∧ 1 = 1 ∧ Ex.size x.x < n ∧ VPre (1 : Int) x) fun n_1 => .all (fun (r : List UInt8 × Int) => (St8.e n_1.s ≠ 0 → r.2 = St8.e n_1.s) ∧ (St8.e n_1.s = 0 → r.2 = Ev.e (evA n_1) ∧ (r.2 = 0 → r.1 = Ev.v (evA n_1)))) fun n_2 => .side ((0 : Int) ≤ 1 ∧ (1 : Int) < s.length) (.ex (fun (x : VX) => eqL [AV.ptr 0 0, AV.agg [AV.int .u8 (Ex.kind (s.getD 1 Ex.nil)), AV.str (Ex.rat (s.getD 1 Ex.nil)), AV.str (Ex.name (s.getD 1 Ex.nil)), AV.int .i64 (Ex.date (s.getD 1 Ex.nil)), AV.sl (List.length (Ex.sub (s.getD 1 Ex.nil))) 5 (Ex.deep (s.getD 1 Ex.nil))]] [AV.ptr 0 0, AV.agg [AV.int .u8 x.x.kind, AV.str x.x.rat, AV.str x.x.name, AV.int .i64 x.x.date, AV.sl x.x.sub.length 5 (Ex.exG x.x.sub)]] ∧ eqH [.box [AV.sl (List.length (St8.f (n_1.s.err n_2.2))) 3 (fxG (St8.f (n_1.s.err n_2.2))), AV.sl (List.length (St8.c (n_1.s.err n_2.2))) 4 (chG (St8.c (n_1.s.err n_2.2))), AV.int .i64 (St8.day (n_1.s.err n_2.2)), AV.int .i64 (St8.e (n_1.s.err n_2.2))]] [.box [AV.sl x.s.f.length 3 (fxG x.s.f), AV.sl x.s.c.length 4 (chG x.s.c), AV.int .i64 x.s.day, AV.int .i64 x.s.e]] ∧ 1 = 1 ∧ Ex.size x.x < n ∧ VPre (1 : Int) x) fun n => .all (fun (r : List UInt8 × Int) => (St8.e n.s ≠ 0 → r.2 = St8.e n.s) ∧ (St8.e n.s = 0 → r.2 = Ev.e (evA n) ∧ (r.2 = 0 → r.1 = Ev.v (evA n)))) fun n_3 => .ite (!decide (St8.e (n.s.err n_3.2) = (0 : Int))) (.leaf (.ret [.str (Array.toList #[])] [.box [.sl (List.length (St8.f (n.s.err n_3.2))) 3 (fxG (St8.f (n.s.err n_3.2))), .sl (List.length (St8.c (n.s.err n_3.2))) 4 (chG (St8.c (n.s.err n_3.2))), .int .i64 (St8.day (n.s.err n_3.2)), .int .i64 (St8.e (n.s.err n_3.2))], .box [.int .u8 k, .str r, .str m, .int .i64 d, .sl s.length 5 (Ex.exG s)]])) (.ite (decide ((4 : Int) ≤ k ∧ k ≤ 8)) (.ite (decide (k = 4)) (.ex (fun (x : K2) => eqL [AV.ptr 0 0, AV.str n_2.1, AV.str n_3.1] [AV.ptr 0 0, AV.str x.a, AV.str x.b] ∧ eqH [.box [AV.sl (List.length (St8.f (n.s.err n_3.2))) 3 (fxG (St8.f (n.s.err n_3.2))), AV.sl (List.length (St8.c (n.s.err n_3.2))) 4 (chG (St8.c (n.s.err n_3.2))), AV.int .i64 (St8.day (n.s.err n_3.2)), AV.int .i64 (St8.e (n.s.err n_3.2))]] [.box [AV.sl x.s.f.length 3 (fxG x.s.f), AV.sl x.s.c.length 4 (chG x.s.c), AV.int .i64 x.s.day, AV.int .i64 x.s.e]] ∧ 1 = 1 ∧ St8.e x.s = 0 ∧ x.a.length < 2305843009213693952 ∧ x.b.length < 2305843009213693952) fun n => .all (fun (r : List UInt8 × Int) => r.2 = Prod.snd (addR n.a n.b) ∧ (r.2 = 0 → r.1 = Prod.fst (addR n.a n.b))) fun n_4 => .ex (fun (x : KS) => eqL [AV.ptr 0 0, AV.str n_4.1, AV.int .i64 n_4.2] [AV.ptr 0 0, AV.str x.x, AV.int .i64 x.e] ∧ eqH [.box [AV.sl (List.length (St8.f (bif true then K2.s n else St8.err n.s n_4.2))) 3 (fxG (St8.f (bif true then K2.s n else St8.err n.s n_4.2))), AV.sl (List.length (St8.c (bif true then K2.s n else St8.err n.s n_4.2))) 4 (chG (St8.c (bif true then K2.s n else St8.err n.s n_4.2))), AV.int .i64 (St8.day (bif true then K2.s n else St8.err n.s n_4.2)), AV.int .i64 (St8.e (bif true then K2.s n else St8.err n.s n_4.2))]] [.box [AV.sl x.s.f.length 3 (fxG x.s.f), AV.sl x.s.c.length 4 (chG x.s.c), AV.int .i64 x.s.day, AV.int .i64 x.s.e]] ∧ 1 = 1 ∧ True) fun n => .all (fun (r : Int) => r = if St8.e n.s = 0 then KS.e n else St8.e n.s) fun n_5 => .leaf (.ret [.str n.x] [.box [.sl (List.length (St8.f (n.s.err n_5))) 3 (fxG (St8.f (n.s.err n_5))), .sl (List.length (St8.c (n.s.err n_5))) 4 (chG (St8.c (n.s.err n_5))), .int .i64 (St8.day (n.s.err n_5)), .int .i64 (St8.e (n.s.err n_5))], .box [.int .u8 k, .str r, .str m, .int .i64 d, .sl s.length 5 (Ex.exG s)]])) (.ite (decide (k = 5)) (.ex (fun (x : K2) => eqL [AV.ptr 0 0, AV.str n_2.1, AV.str n_3.1] [AV.ptr 0 0, AV.str x.a, AV.str x.b] ∧ eqH [.box [AV.sl (List.length (St8.f (n.s.err n_3.2))) 3 (fxG (St8.f (n.s.err n_3.2))), AV.sl (List.length (St8.c (n.s.err n_3.2))) 4 (chG (St8.c (n.s.err n_3.2))), AV.int .i64 (St8.day (n.s.err n_3.2)), AV.int .i64 (St8.e (n.s.err n_3.2))]] [.box [AV.sl x.s.f.length 3 (fxG x.s.f), AV.sl x.s.c.length 4 (chG x.s.c), AV.int .i64 x.s.day, AV.int .i64 x.s.e]] ∧ 1 = 1 ∧ St8.e x.s = 0 ∧ x.a.length < 2305843009213693952 ∧ x.b.length < 2305843009213693952) fun n => .all (fun (r : List UInt8 × Int) => r.2 = Prod.snd (subR n.a n.b) ∧ (r.2 = 0 → r.1 = Prod.fst (subR n.a n.b))) fun n_4 => .ex (fun (x : KS) => eqL [AV.ptr 0 0, AV.str n_4.1, AV.int .i64 n_4.2] [AV.ptr 0 0, AV.str x.x, AV.int .i64 x.e] ∧ eqH [.box [AV.sl (List.length (St8.f (bif true then K2.s n else St8.err n.s n_4.2))) 3 (fxG (St8.f (bif true then K2.s n else St8.err n.s n_4.2))), AV.sl (List.length (St8.c (bif true then K2.s n else St8.err n.s n_4.2))) 4 (chG (St8.c (bif true then K2.s n else St8.err n.s n_4.2))), AV.int .i64 (St8.day (bif true then K2.s n else St8.err n.s n_4.2)), AV.int .i64 (St8.e (bif true then K2.s n else St8.err n.s n_4.2))]] [.box [AV.sl x.s.f.length 3 (fxG x.s.f), AV.sl x.s.c.length 4 (chG x.s.c), AV.int .i64 x.s.day, AV.int .i64 x.s.e]] ∧ 1 = 1 ∧ True) fun n => .all (fun (r : Int) => r = if St8.e n.s = 0 then KS.e n else St8.e n.s) fun n_5 => .leaf (.ret [.str n.x] [.box [.sl (List.length (St8.f (n.s.err n_5))) 3 (fxG (St8.f (n.s.err n_5))), .sl (List.length (St8.c (n.s.err n_5))) 4 (chG (St8.c (n.s.err n_5))), .int .i64 (St8.day (n.s.err n_5)), .int .i64 (St8.e (n.s.err n_5))], .box [.int .u8 k, .str r, .str m, .int .i64 d, .sl s.length 5 (Ex.exG s)]])) (.ite (decide (k = 6)) (.ex (fun (x : K2) => eqL [AV.ptr 0 0, AV.str n_2.1, AV.str n_3.1] [AV.ptr 0 0, AV.str x.a, AV.str x.b] ∧ eqH [.box [AV.sl (List.length (St8.f (n.s.err n_3.2))) 3 (fxG (St8.f (n.s.err n_3.2))), AV.sl (List.length (St8.c (n.s.err n_3.2))) 4 (chG (St8.c (n.s.err n_3.2))), AV.int .i64 (St8.day (n.s.err n_3.2)), AV.int .i64 (St8.e (n.s.err n_3.2))]] [.box [AV.sl x.s.f.length 3 (fxG x.s.f), AV.sl x.s.c.length 4 (chG x.s.c), AV.int .i64 x.s.day, AV.int .i64 x.s.e]] ∧ 1 = 1 ∧ St8.e x.s = 0 ∧ x.a.length < 2305843009213693952 ∧ x.b.length < 2305843009213693952) fun n => .all (fun (r : List UInt8 × Int) => r.2 = Prod.snd (mulR n.a n.b) ∧ (r.2 = 0 → r.1 = Prod.fst (mulR n.a n.b))) fun n_4 => .ex (fun (x : KS) => eqL [AV.ptr 0 0, AV.str n_4.1, AV.int .i64 n_4.2] [AV.ptr 0 0, AV.str x.x, AV.int .i64 x.e] ∧ eqH [.box [AV.sl (List.length (St8.f (bif true then K2.s n else St8.err n.s n_4.2))) 3 (fxG (St8.f (bif true then K2.s n else St8.err n.s n_4.2))), AV.sl (List.length (St8.c (bif true then K2.s n else St8.err n.s n_4.2))) 4 (chG (St8.c (bif true then K2.s n else St8.err n.s n_4.2))), AV.int .i64 (St8.day (bif true then K2.s n else St8.err n.s n_4.2)), AV.int .i64 (St8.e (bif true then K2.s n else St8.err n.s n_4.2))]] [.box [AV.sl x.s.f.length 3 (fxG x.s.f), AV.sl x.s.c.length 4 (chG x.s.c), AV.int .i64 x.s.day, AV.int .i64 x.s.e]] ∧ 1 = 1 ∧ True) fun n => .all (fun (r : Int) => r = if St8.e n.s = 0 then KS.e n else St8.e n.s) fun n_5 => .leaf (.ret [.str n.x] [.box [.sl (List.length (St8.f (n.s.err n_5))) 3 (fxG (St8.f (n.s.err n_5))), .sl (List.length (St8.c (n.s.err n_5))) 4 (chG (St8.c (n.s.err n_5))), .int .i64 (St8.day (n.s.err n_5)), .int .i64 (St8.e (n.s.err n_5))], .box [.int .u8 k, .str r, .str m, .int .i64 d, .sl s.length 5 (Ex.exG s)]])) (.ite (decide (k = 7)) (.ex (fun (x : K2) => eqL [AV.ptr 0 0, AV.str n_2.1, AV.str n_3.1] [AV.ptr 0 0, AV.str x.a, AV.str x.b] ∧ eqH [.box [AV.sl (List.length (St8.f (n.s.err n_3.2))) 3 (fxG (St8.f (n.s.err n_3.2))), AV.sl (List.length (St8.c (n.s.err n_3.2))) 4 (chG (St8.c (n.s.err n_3.2))), AV.int .i64 (St8.day (n.s.err n_3.2)), AV.int .i64 (St8.e (n.s.err n_3.2))]] [.box [AV.sl x.s.f.length 3 (fxG x.s.f), AV.sl x.s.c.length 4 (chG x.s.c), AV.int .i64 x.s.day, AV.int .i64 x.s.e]] ∧ 1 = 1 ∧ St8.e x.s = 0 ∧ x.a.length < 2305843009213693952 ∧ x.b.length < 2305843009213693952) fun n => .all (fun (r : List UInt8 × Int) => r.2 = Prod.snd (j6 (7 : Int) n.a n.b) ∧ (r.2 = 0 → r.1 = Prod.fst (j6 (7 : Int) n.a n.b))) fun n_4 => .ex (fun (x : KS) => eqL [AV.ptr 0 0, AV.str n_4.1, AV.int .i64 n_4.2] [AV.ptr 0 0, AV.str x.x, AV.int .i64 x.e] ∧ eqH [.box [AV.sl (List.length (St8.f (bif false then K2.s n else St8.err n.s n_4.2))) 3 (fxG (St8.f (bif false then K2.s n else St8.err n.s n_4.2))), AV.sl (List.length (St8.c (bif false then K2.s n else St8.err n.s n_4.2))) 4 (chG (St8.c (bif false then K2.s n else St8.err n.s n_4.2))), AV.int .i64 (St8.day (bif false then K2.s n else St8.err n.s n_4.2)), AV.int .i64 (St8.e (bif false then K2.s n else St8.err n.s n_4.2))]] [.box [AV.sl x.s.f.length 3 (fxG x.s.f), AV.sl x.s.c.length 4 (chG x.s.c), AV.int .i64 x.s.day, AV.int .i64 x.s.e]] ∧ 1 = 1 ∧ True) fun n => .all (fun (r : Int) => r = if St8.e n.s = 0 then KS.e n else St8.e n.s) fun n_5 => .leaf (.ret [.str n.x] [.box [.sl (List.length (St8.f (n.s.err n_5))) 3 (fxG (St8.f (n.s.err n_5))), .sl (List.length (St8.c (n.s.err n_5))) 4 (chG (St8.c (n.s.err n_5))), .int .i64 (St8.day (n.s.err n_5)), .int .i64 (St8.e (n.s.err n_5))], .box [.int .u8 k, .str r, .str m, .int .i64 d, .sl s.length 5 (Ex.exG s)]])) (.ite (decide (k = 8)) (.ex (fun (x : K2) => eqL [AV.ptr 0 0, AV.str n_2.1, AV.str n_3.1] [AV.ptr 0 0, AV.str x.a, AV.str x.b] ∧ eqH [.box [AV.sl (List.length (St8.f (n.s.err n_3.2))) 3 (fxG (St8.f (n.s.err n_3.2))), AV.sl (List.length (St8.c (n.s.err n_3.2))) 4 (chG (St8.c (n.s.err n_3.2))), AV.int .i64 (St8.day (n.s.err n_3.2)), AV.int .i64 (St8.e (n.s.err n_3.2))]] [.box [AV.sl x.s.f.length 3 (fxG x.s.f), AV.sl x.s.c.length 4 (chG x.s.c), AV.int .i64 x.s.day, AV.int .i64 x.s.e]] ∧ 1 = 1 ∧ St8.e x.s = 0 ∧ x.a.length < 2305843009213693952 ∧ x.b.length < 2305843009213693952) fun n => .all (fun (r : List UInt8 × Int) => r.2 = Prod.snd (j6 (8 : Int) n.a n.b) ∧ (r.2 = 0 → r.1 = Prod.fst (j6 (8 : Int) n.a n.b))) fun n_4 => .ex (fun (x : KS) => eqL [AV.ptr 0 0, AV.str n_4.1, AV.int .i64 n_4.2] [AV.ptr 0 0, AV.str x.x, AV.int .i64 x.e] ∧ eqH [.box [AV.sl (List.length (St8.f (bif false then K2.s n else St8.err n.s n_4.2))) 3 (fxG (St8.f (bif false then K2.s n else St8.err n.s n_4.2))), AV.sl (List.length (St8.c (bif false then K2.s n else St8.err n.s n_4.2))) 4 (chG (St8.c (bif false then K2.s n else St8.err n.s n_4.2))), AV.int .i64 (St8.day (bif false then K2.s n else St8.err n.s n_4.2)), AV.int .i64 (St8.e (bif false then K2.s n else St8.err n.s n_4.2))]] [.box [AV.sl x.s.f.length 3 (fxG x.s.f), AV.sl x.s.c.length 4 (chG x.s.c), AV.int .i64 x.s.day, AV.int .i64 x.s.e]] ∧ 1 = 1 ∧ True) fun n => .all (fun (r : Int) => r = if St8.e n.s = 0 then KS.e n else St8.e n.s) fun n_5 => .leaf (.ret [.str n.x] [.box [.sl (List.length (St8.f (n.s.err n_5))) 3 (fxG (St8.f (n.s.err n_5))), .sl (List.length (St8.c (n.s.err n_5))) 4 (chG (St8.c (n.s.err n_5))), .int .i64 (St8.day (n.s.err n_5)), .int .i64 (St8.e (n.s.err n_5))], .box [.int .u8 k, .str r, .str m, .int .i64 d, .sl s.length 5 (Ex.exG s)]])) .fail))))) .fail))))))))) (by kernel_rfl) ?_
 simp only [Tree.holds, zd]
 refine ⟨fun h => ?_, fun h => ?_⟩
 ·have h : e ≠ 0 := by simpa using h
  exact RetR.st9 rfl (hq ([], e) ⟨fun _ => rfl, fun h0 => absurd h0 h⟩) rfl rfl
 have h : e = 0 := by simpa using h
 subst h
 obtain ⟨hs, hf, hfl⟩ := hv rfl
 simp only at hs hf hfl
 have hq0 : ∀ t : List UInt8 × Int, t.2 = ((Ex.mk k r m d s).ev f day).e → (t.2 = 0 → t.1 = ((Ex.mk k r m d s).ev f day).v) → Q (.str t.1, [(St8.mk f c day t.2).box]) := fun t h1 h2 => hq t ⟨fun h => absurd rfl h, fun _ => ⟨h1, h2⟩⟩
 clear hq
 have hev : (Ex.mk k r m d s).ev f day = evN f day k r m d (Ex.evs f day s) := by rw [Ex.ev]
 have hc := Ex.ZJ hs
 simp only [Ex.kind, Ex.sub, Ex.rat] at hc
 rw [Ex.size] at hn
 have z0 := fun g => Ex.zH (s := s) (i := 0) g
 have z1 := fun g => Ex.zH (s := s) (i := 1) g
 have z2 := fun g => Ex.zH (s := s) (i := 2) g
 have hfix : ∀ (x : List UInt8) (y : Int) (b : Blk), fixR f x y = (((Ex.mk k r m d s).ev f day).v, ((Ex.mk k r m d s).ev f day).e) → ∀ z, z = fixR f x y → RetR (valC fun k => k.x.size < n + 1 ∧ VPre 1 k) 1 Q [.str z.1] [.box [.sl f.length 3 (fxG f), .sl c.length 4 (chG c), .int .i64 day, .int .i64 z.2], b] := by
  rintro x y b h1 z rfl
  exact RetR.st9 rfl (hq0 _ (congrArg Prod.snd h1) fun _ => congrArg Prod.fst h1) rfl rfl
 rcases hc with ⟨rfl, hr⟩ | rfl | rfl | ⟨⟨k1, k2⟩, hl, hs0, hs1⟩ | ⟨rfl, hl, hs0, hs1, hs2⟩
 ·refine ⟨fun _ => ?_, fun h => (by cases h)⟩
  exact RetR.st9 rfl (hq0 (r, 0) (by rw [hev]; rfl) fun _ => by rw [hev]; rfl) rfl rfl
 ·refine ⟨fun h => (by cases h), fun _ => ⟨fun _ => ?_, fun h => (by cases h)⟩⟩
  refine ⟨⟨⟨f, c, day, 0⟩, m, d⟩, ⟨⟨⟨rfl, rfl⟩, rfl, ⟨rfl, rfl⟩, trivial⟩, qj f c day 0, by trivial, hfl, rfl⟩, ⟨_, rfl⟩, ?_⟩
  exact hfix m d _ (by rw [hev]; rfl)
 ·refine ⟨fun h => (by cases h), fun _ => ⟨fun h => (by cases h), fun _ => ⟨fun _ => ?_, fun h => (by cases h)⟩⟩⟩
  refine ⟨⟨⟨f, c, day, 0⟩, m, day⟩, ⟨⟨⟨rfl, rfl⟩, rfl, ⟨rfl, rfl⟩, trivial⟩, qj f c day 0, by trivial, hfl, rfl⟩, ⟨_, rfl⟩, ?_⟩
  exact hfix m day _ (by rw [hev]; rfl)
 ·iterate 4 refine ⟨fun h => absurd (of_decide_eq_true h) (by omega), fun _ => ?_⟩
  have z0 := z0 (by omega)
  have z1 := z1 (by omega)
  have he : (((Ex.mk k r m d s).ev f day).v, ((Ex.mk k r m d s).ev f day).e) = uf [] ((s.getD 0 Ex.nil).ev f day) ((s.getD 1 Ex.nil).ev f day) (opR k) := by
   rw [hev]
   simp only [evN, valN]
   rw [if_neg (by omega), if_neg (by omega), if_neg (by omega), if_neg (by omega), Ex.q5 (by omega), Ex.q5 (by omega)]
  unfold uf at he
  refine ⟨⟨by decide, by omega⟩, fun _ => ⟨⟨⟨f, c, day, 0⟩, s.getD 0 Ex.nil⟩, ⟨eqX2 _, qj f c day 0, by trivial, by show (s.getD 0 Ex.nil).size < n; omega, fun _ => ⟨hs0, hf, hfl⟩⟩, vE _ _ _, ?_⟩⟩
  intro r0 g0
  obtain ⟨g0, k0⟩ := g0.2 rfl
  simp only [evA] at g0 k0
  refine ⟨⟨by decide, by omega⟩, fun _ => ⟨⟨⟨f, c, day, r0.2⟩, s.getD 1 Ex.nil⟩, ⟨eqX2 _, qj f c day r0.2, by trivial, by show (s.getD 1 Ex.nil).size < n; omega, fun _ => ⟨hs1, hf, hfl⟩⟩, vE _ _ _, ?_⟩⟩
  intro r1 g1
  simp only [evA] at g1
  refine ⟨fun h => ?_, fun h => ?_⟩
  ·have h : r1.2 ≠ 0 := by
    intro h0
    have h' : (!decide (r1.2 = 0)) = true := h
    rw [h0] at h'; cases h'
   refine RetR.st9 rfl (hq0 ([], r1.2) ?_ fun h0 => absurd h0 h) rfl rfl
   have he := congrArg Prod.snd he
   simp only at he ⊢
   rw [he]
   by_cases h3 : r0.2 = 0
   ·obtain ⟨q1, _⟩ := g1.2 h3
    rw [if_neg (by rw [← g0]; simpa using h3), if_pos (by rw [← q1]; exact h), q1]
   ·rw [if_pos (by rw [← g0]; exact h3), g1.1 h3, g0]
  ·have h : r1.2 = 0 := by
    have h' : (!decide (r1.2 = 0)) = false := h
    simpa using h'
   have h3 : r0.2 = 0 := by
    refine Decidable.byContradiction fun h3 => ?_
    exact h3 (by rw [← g1.1 h3]; exact h)
   obtain ⟨q1, k1'⟩ := g1.2 h3
   have k0 := k0 h3
   have k1' := k1' h
   rw [if_neg (by rw [← g0]; simpa using h3), if_neg (by rw [← q1]; simpa using h), ← k0, ← k1'] at he
   have l0 := xy (by rw [k0]; exact Ex.y3 hf day _ hs0 (by rw [← g0]; exact h3) : errR r0.1 = 0)
   have l1 := xy (by rw [k1']; exact Ex.y3 hf day _ hs1 (by rw [← q1]; exact h) : errR r1.1 = 0)
   refine ⟨fun _ => ?_, fun hno => absurd (of_decide_eq_false hno) (by simp only [Classical.not_not]; exact ⟨k1, k2⟩)⟩
   refine ⟨fun hk => ?_, fun hk => ?_⟩
   ·have hk : k = 4 := of_decide_eq_true hk
    subst hk
    have ho : opR 4 r0.1 r1.1 = addR r0.1 r1.1 := rfl
    rw [ho] at he
    refine ⟨⟨⟨f, c, day, 0⟩, r0.1, r1.1⟩, ⟨⟨⟨rfl, rfl⟩, rfl, rfl, trivial⟩, ⟨⟨⟨rfl, rfl, za _ _ _⟩, ⟨rfl, rfl, za _ _ _⟩, ⟨rfl, rfl⟩, ⟨rfl, h⟩, trivial⟩, trivial⟩, by trivial, rfl, by show r0.1.length < _; omega, by show r1.1.length < _; omega⟩, ⟨addR r0.1 r1.1, rfl, fun _ => rfl⟩, ?_⟩
    intro t ht
    obtain ⟨t1, t2⟩ := ht
    simp only at t1 t2
    refine ⟨⟨⟨f, c, day, 0⟩, t.1, t.2⟩, ⟨⟨⟨rfl, rfl⟩, rfl, ⟨rfl, rfl⟩, trivial⟩, qj f c day _, by trivial, trivial⟩, ⟨_, rfl⟩, ?_⟩
    intro z hz
    have hz : z = t.2 := by
     rw [hz]
     show (if 0 = (0 : Int) then t.2 else 0) = t.2
     by_cases g : t.2 = 0 <;> simp [g]
    subst hz
    exact RetR.st9 rfl (hq0 t (by rw [t1]; exact (congrArg Prod.snd he).symm) fun g => by rw [t2 g]; exact (congrArg Prod.fst he).symm) rfl rfl
   have hk : ¬ k = 4 := of_decide_eq_false hk
   refine ⟨fun hk => ?_, fun hk => ?_⟩
   ·have hk : k = 5 := of_decide_eq_true hk
    subst hk
    have ho : opR 5 r0.1 r1.1 = subR r0.1 r1.1 := rfl
    rw [ho] at he
    refine ⟨⟨⟨f, c, day, 0⟩, r0.1, r1.1⟩, ⟨⟨⟨rfl, rfl⟩, rfl, rfl, trivial⟩, ⟨⟨⟨rfl, rfl, za _ _ _⟩, ⟨rfl, rfl, za _ _ _⟩, ⟨rfl, rfl⟩, ⟨rfl, h⟩, trivial⟩, trivial⟩, by trivial, rfl, by show r0.1.length < _; omega, by show r1.1.length < _; omega⟩, ⟨subR r0.1 r1.1, rfl, fun _ => rfl⟩, ?_⟩
    intro t ht
    obtain ⟨t1, t2⟩ := ht
    simp only at t1 t2
    refine ⟨⟨⟨f, c, day, 0⟩, t.1, t.2⟩, ⟨⟨⟨rfl, rfl⟩, rfl, ⟨rfl, rfl⟩, trivial⟩, qj f c day _, by trivial, trivial⟩, ⟨_, rfl⟩, ?_⟩
    intro z hz
    have hz : z = t.2 := by
     rw [hz]
     show (if 0 = (0 : Int) then t.2 else 0) = t.2
     by_cases g : t.2 = 0 <;> simp [g]
    subst hz
    exact RetR.st9 rfl (hq0 t (by rw [t1]; exact (congrArg Prod.snd he).symm) fun g => by rw [t2 g]; exact (congrArg Prod.fst he).symm) rfl rfl
   have hk : ¬ k = 5 := of_decide_eq_false hk
   refine ⟨fun hk => ?_, fun hk => ?_⟩
   ·have hk : k = 6 := of_decide_eq_true hk
    subst hk
    have ho : opR 6 r0.1 r1.1 = mulR r0.1 r1.1 := rfl
    rw [ho] at he
    refine ⟨⟨⟨f, c, day, 0⟩, r0.1, r1.1⟩, ⟨⟨⟨rfl, rfl⟩, rfl, rfl, trivial⟩, ⟨⟨⟨rfl, rfl, za _ _ _⟩, ⟨rfl, rfl, za _ _ _⟩, ⟨rfl, rfl⟩, ⟨rfl, h⟩, trivial⟩, trivial⟩, by trivial, rfl, by show r0.1.length < _; omega, by show r1.1.length < _; omega⟩, ⟨mulR r0.1 r1.1, rfl, fun _ => rfl⟩, ?_⟩
    intro t ht
    obtain ⟨t1, t2⟩ := ht
    simp only at t1 t2
    refine ⟨⟨⟨f, c, day, 0⟩, t.1, t.2⟩, ⟨⟨⟨rfl, rfl⟩, rfl, ⟨rfl, rfl⟩, trivial⟩, qj f c day _, by trivial, trivial⟩, ⟨_, rfl⟩, ?_⟩
    intro z hz
    have hz : z = t.2 := by
     rw [hz]
     show (if 0 = (0 : Int) then t.2 else 0) = t.2
     by_cases g : t.2 = 0 <;> simp [g]
    subst hz
    exact RetR.st9 rfl (hq0 t (by rw [t1]; exact (congrArg Prod.snd he).symm) fun g => by rw [t2 g]; exact (congrArg Prod.fst he).symm) rfl rfl
   have hk : ¬ k = 6 := of_decide_eq_false hk
   refine ⟨fun hk => ?_, fun hk => ?_⟩
   ·have hk : k = 7 := of_decide_eq_true hk
    subst hk
    have ho : opR 7 r0.1 r1.1 = (j6 7) r0.1 r1.1 := rfl
    rw [ho] at he
    refine ⟨⟨⟨f, c, day, 0⟩, r0.1, r1.1⟩, ⟨⟨⟨rfl, rfl⟩, rfl, rfl, trivial⟩, ⟨⟨⟨rfl, rfl, za _ _ _⟩, ⟨rfl, rfl, za _ _ _⟩, ⟨rfl, rfl⟩, ⟨rfl, h⟩, trivial⟩, trivial⟩, by trivial, rfl, by show r0.1.length < _; omega, by show r1.1.length < _; omega⟩, ⟨(j6 7) r0.1 r1.1, rfl, fun _ => rfl⟩, ?_⟩
    intro t ht
    obtain ⟨t1, t2⟩ := ht
    simp only at t1 t2
    refine ⟨⟨⟨f, c, day, t.2⟩, t.1, t.2⟩, ⟨⟨⟨rfl, rfl⟩, rfl, ⟨rfl, rfl⟩, trivial⟩, qj f c day _, by trivial, trivial⟩, ⟨_, rfl⟩, ?_⟩
    intro z hz
    have hz : z = t.2 := by
     rw [hz]
     show (if t.2 = (0 : Int) then t.2 else t.2) = t.2
     by_cases g : t.2 = 0 <;> simp [g]
    subst hz
    exact RetR.st9 rfl (hq0 t (by rw [t1]; exact (congrArg Prod.snd he).symm) fun g => by rw [t2 g]; exact (congrArg Prod.fst he).symm) rfl rfl
   have hk : ¬ k = 7 := of_decide_eq_false hk
   refine ⟨fun hk => ?_, fun hk => ?_⟩
   ·have hk : k = 8 := of_decide_eq_true hk
    subst hk
    have ho : opR 8 r0.1 r1.1 = (j6 8) r0.1 r1.1 := rfl
    rw [ho] at he
    refine ⟨⟨⟨f, c, day, 0⟩, r0.1, r1.1⟩, ⟨⟨⟨rfl, rfl⟩, rfl, rfl, trivial⟩, ⟨⟨⟨rfl, rfl, za _ _ _⟩, ⟨rfl, rfl, za _ _ _⟩, ⟨rfl, rfl⟩, ⟨rfl, h⟩, trivial⟩, trivial⟩, by trivial, rfl, by show r0.1.length < _; omega, by show r1.1.length < _; omega⟩, ⟨(j6 8) r0.1 r1.1, rfl, fun _ => rfl⟩, ?_⟩
    intro t ht
    obtain ⟨t1, t2⟩ := ht
    simp only at t1 t2
    refine ⟨⟨⟨f, c, day, t.2⟩, t.1, t.2⟩, ⟨⟨⟨rfl, rfl⟩, rfl, ⟨rfl, rfl⟩, trivial⟩, qj f c day _, by trivial, trivial⟩, ⟨_, rfl⟩, ?_⟩
    intro z hz
    have hz : z = t.2 := by
     rw [hz]
     show (if t.2 = (0 : Int) then t.2 else t.2) = t.2
     by_cases g : t.2 = 0 <;> simp [g]
    subst hz
    exact RetR.st9 rfl (hq0 t (by rw [t1]; exact (congrArg Prod.snd he).symm) fun g => by rw [t2 g]; exact (congrArg Prod.fst he).symm) rfl rfl
   have hk : ¬ k = 8 := of_decide_eq_false hk
   omega
 ·iterate 3 refine ⟨fun h => (by cases h), fun _ => ?_⟩
  refine ⟨fun _ => ?_, fun h => (by cases h)⟩
  have z0 := z0 (by omega)
  have z1 := z1 (by omega)
  have z2 := z2 (by omega)
  have he : (((Ex.mk 9 r m d s).ev f day).v, ((Ex.mk 9 r m d s).ev f day).e) = if ((s.getD 0 Ex.nil).ev f day).g ≠ 0 then ([], ((s.getD 0 Ex.nil).ev f day).g) else if ((s.getD 0 Ex.nil).ev f day).b then (((s.getD 1 Ex.nil).ev f day).v, ((s.getD 1 Ex.nil).ev f day).e) else (((s.getD 2 Ex.nil).ev f day).v, ((s.getD 2 Ex.nil).ev f day).e) := by
   rw [hev]
   simp only [evN, valN]
   rw [if_neg (by decide), if_neg (by decide), if_neg (by decide), if_pos trivial, Ex.q5 (by omega), Ex.q5 (by omega), Ex.q5 (by omega)]
  refine ⟨⟨by decide, by omega⟩, fun _ => ⟨⟨⟨f, c, day, 0⟩, s.getD 0 Ex.nil⟩, ⟨eqX2 _, qj f c day 0, by trivial, by show (s.getD 0 Ex.nil).size < n; omega, fun _ => ⟨hs0, hf, hfl⟩⟩, uG _ _ _, ?_⟩⟩
  intro r0 g0
  obtain ⟨g0, k0⟩ := g0.2 rfl
  simp only [evA] at g0 k0
  have fin : ∀ (y : Ex), (r0.2 = 0 → (((Ex.mk 9 r m d s).ev f day).v, ((Ex.mk 9 r m d s).ev f day).e) = ((y.ev f day).v, (y.ev f day).e)) → ∀ (b : Blk) (t : List UInt8 × Int), ((r0.2 ≠ 0 → t.2 = r0.2) ∧ (r0.2 = 0 → t.2 = (y.ev f day).e ∧ (t.2 = 0 → t.1 = (y.ev f day).v))) →
    RetR (valC fun k => k.x.size < n + 1 ∧ VPre 1 k) 1 Q [.str t.1] [.box [.sl f.length 3 (fxG f), .sl c.length 4 (chG c), .int .i64 day, .int .i64 t.2], b] := by
   intro y hy b t ht
   refine RetR.st9 rfl (hq0 t ?_ fun h0 => ?_) rfl rfl
   ·by_cases h3 : r0.2 = 0
    ·rw [(ht.2 h3).1]; exact (congrArg Prod.snd (hy h3)).symm
    ·rw [ht.1 h3, g0]
     rw [if_pos (by rw [← g0]; exact h3)] at he
     exact (congrArg Prod.snd he).symm
   ·have h3 : r0.2 = 0 := by
     refine Decidable.byContradiction fun h3 => ?_
     exact h3 (by rw [← ht.1 h3]; exact h0)
    rw [(ht.2 h3).2 h0]; exact (congrArg Prod.fst (hy h3)).symm
  refine ⟨fun hb => ?_, fun hb => ?_⟩
  ·refine ⟨⟨by decide, by omega⟩, fun _ => ⟨⟨⟨f, c, day, r0.2⟩, s.getD 1 Ex.nil⟩, ⟨eqX2 _, qj f c day r0.2, by trivial, by show (s.getD 1 Ex.nil).size < n; omega, fun _ => ⟨hs1, hf, hfl⟩⟩, vE _ _ _, ?_⟩⟩
   intro t ht
   exact fin _ (fun h3 => by rw [he, if_neg (by rw [← g0]; simpa using h3), if_pos (by rw [← k0 h3]; exact hb)]) _ t ht
  ·refine ⟨⟨by decide, by omega⟩, fun _ => ⟨⟨⟨f, c, day, r0.2⟩, s.getD 2 Ex.nil⟩, ⟨eqX2 _, qj f c day r0.2, by trivial, by show (s.getD 2 Ex.nil).size < n; omega, fun _ => ⟨hs2, hf, hfl⟩⟩, vE _ _ _, ?_⟩⟩
   intro t ht
   exact fin _ (fun h3 => by rw [he, if_neg (by rw [← g0]; simpa using h3), if_neg (by rw [← k0 h3, hb]; decide)]) _ t ht
theorem WH : zb Tryd.prog 40 (hldC fun k => k.x.size < n + 1 ∧ VPre 2 k) := by
 refine zB (fn := Tryd.f40) (c := Tryd.f40.body.getD .skip) rfl rfl rfl (fun h => by cases h) fun k hk O w0 σ0 Q hl0 hq => ?_
 obtain ⟨⟨f, c, day, e⟩, ⟨k, r, m, d, s⟩⟩ := k
 obtain ⟨hn, hv⟩ := hk
 simp only at hn hv hq
 refine zc.run hmix (YQ h1 h2) [] 400 (T := .ite (!decide (e = 0)) (.leaf (.ret [.bool false] [.box [.sl f.length 3 (fxG f), .sl c.length 4 (chG c), .int .i64 day, .int .i64 e], .box [.int .u8 k, .str r, .str m, .int .i64 d, .sl s.length 5 (Ex.exG s)]])) (.ite (decide (k = 13)) (.side ((0 : Int) ≤ 0 ∧ (0 : Int) < s.length) (.ex (fun (x : VX) => eqL [AV.ptr 0 0, AV.agg [AV.int .u8 (Ex.kind (s.getD 0 Ex.nil)), AV.str (Ex.rat (s.getD 0 Ex.nil)), AV.str (Ex.name (s.getD 0 Ex.nil)), AV.int .i64 (Ex.date (s.getD 0 Ex.nil)), AV.sl (List.length (Ex.sub (s.getD 0 Ex.nil))) 5 (Ex.deep (s.getD 0 Ex.nil))]] [AV.ptr 0 0, AV.agg [AV.int .u8 x.x.kind, AV.str x.x.rat, AV.str x.x.name, AV.int .i64 x.x.date, AV.sl x.x.sub.length 5 (Ex.exG x.x.sub)]] ∧ eqH [.box [AV.sl f.length 3 (fxG f), AV.sl c.length 4 (chG c), AV.int .i64 day, AV.int .i64 e]] [.box [AV.sl x.s.f.length 3 (fxG x.s.f), AV.sl x.s.c.length 4 (chG x.s.c), AV.int .i64 x.s.day, AV.int .i64 x.s.e]] ∧ 1 = 1 ∧ Ex.size x.x < n ∧ VPre (2 : Int) x) fun n_1 => .all (fun (r : Bool × Int) => (St8.e n_1.s ≠ 0 → r.2 = St8.e n_1.s) ∧ (St8.e n_1.s = 0 → r.2 = Ev.g (evA n_1) ∧ (r.2 = 0 → r.1 = Ev.b (evA n_1)))) fun n_2 => .side (n_2.1 = true → (0 : Int) ≤ 1 ∧ (1 : Int) < s.length) (.ite (n_2.1 == true) (.ex (fun (x : VX) => eqL [AV.ptr 0 0, AV.agg [AV.int .u8 (Ex.kind (s.getD 1 Ex.nil)), AV.str (Ex.rat (s.getD 1 Ex.nil)), AV.str (Ex.name (s.getD 1 Ex.nil)), AV.int .i64 (Ex.date (s.getD 1 Ex.nil)), AV.sl (List.length (Ex.sub (s.getD 1 Ex.nil))) 5 (Ex.deep (s.getD 1 Ex.nil))]] [AV.ptr 0 0, AV.agg [AV.int .u8 x.x.kind, AV.str x.x.rat, AV.str x.x.name, AV.int .i64 x.x.date, AV.sl x.x.sub.length 5 (Ex.exG x.x.sub)]] ∧ eqH [.box [AV.sl (List.length (St8.f (n_1.s.err n_2.2))) 3 (fxG (St8.f (n_1.s.err n_2.2))), AV.sl (List.length (St8.c (n_1.s.err n_2.2))) 4 (chG (St8.c (n_1.s.err n_2.2))), AV.int .i64 (St8.day (n_1.s.err n_2.2)), AV.int .i64 (St8.e (n_1.s.err n_2.2))]] [.box [AV.sl x.s.f.length 3 (fxG x.s.f), AV.sl x.s.c.length 4 (chG x.s.c), AV.int .i64 x.s.day, AV.int .i64 x.s.e]] ∧ 1 = 1 ∧ Ex.size x.x < n ∧ VPre (2 : Int) x) fun n => .all (fun (r : Bool × Int) => (St8.e n.s ≠ 0 → r.2 = St8.e n.s) ∧ (St8.e n.s = 0 → r.2 = Ev.g (evA n) ∧ (r.2 = 0 → r.1 = Ev.b (evA n)))) fun n_3 => .leaf (.ret [.bool (bif n_2.1 then n_3.1 else false)] [.box [.sl (List.length (St8.f (n.s.err n_3.2))) 3 (fxG (St8.f (n.s.err n_3.2))), .sl (List.length (St8.c (n.s.err n_3.2))) 4 (chG (St8.c (n.s.err n_3.2))), .int .i64 (St8.day (n.s.err n_3.2)), .int .i64 (St8.e (n.s.err n_3.2))], .box [.int .u8 k, .str r, .str m, .int .i64 d, .sl s.length 5 (Ex.exG s)]])) (.leaf (.ret [.bool (bif n_2.1 then false else false)] [.box [.sl (List.length (St8.f (n_1.s.err n_2.2))) 3 (fxG (St8.f (n_1.s.err n_2.2))), .sl (List.length (St8.c (n_1.s.err n_2.2))) 4 (chG (St8.c (n_1.s.err n_2.2))), .int .i64 (St8.day (n_1.s.err n_2.2)), .int .i64 (St8.e (n_1.s.err n_2.2))], .box [.int .u8 k, .str r, .str m, .int .i64 d, .sl s.length 5 (Ex.exG s)]]))))) (.ite (decide (k = 14)) (.side ((0 : Int) ≤ 0 ∧ (0 : Int) < s.length) (.ex (fun (x : VX) => eqL [AV.ptr 0 0, AV.agg [AV.int .u8 (Ex.kind (s.getD 0 Ex.nil)), AV.str (Ex.rat (s.getD 0 Ex.nil)), AV.str (Ex.name (s.getD 0 Ex.nil)), AV.int .i64 (Ex.date (s.getD 0 Ex.nil)), AV.sl (List.length (Ex.sub (s.getD 0 Ex.nil))) 5 (Ex.deep (s.getD 0 Ex.nil))]] [AV.ptr 0 0, AV.agg [AV.int .u8 x.x.kind, AV.str x.x.rat, AV.str x.x.name, AV.int .i64 x.x.date, AV.sl x.x.sub.length 5 (Ex.exG x.x.sub)]] ∧ eqH [.box [AV.sl f.length 3 (fxG f), AV.sl c.length 4 (chG c), AV.int .i64 day, AV.int .i64 e]] [.box [AV.sl x.s.f.length 3 (fxG x.s.f), AV.sl x.s.c.length 4 (chG x.s.c), AV.int .i64 x.s.day, AV.int .i64 x.s.e]] ∧ 1 = 1 ∧ Ex.size x.x < n ∧ VPre (2 : Int) x) fun n_1 => .all (fun (r : Bool × Int) => (St8.e n_1.s ≠ 0 → r.2 = St8.e n_1.s) ∧ (St8.e n_1.s = 0 → r.2 = Ev.g (evA n_1) ∧ (r.2 = 0 → r.1 = Ev.b (evA n_1)))) fun n_2 => .side (n_2.1 = false → (0 : Int) ≤ 1 ∧ (1 : Int) < s.length) (.ite (n_2.1 == false) (.ex (fun (x : VX) => eqL [AV.ptr 0 0, AV.agg [AV.int .u8 (Ex.kind (s.getD 1 Ex.nil)), AV.str (Ex.rat (s.getD 1 Ex.nil)), AV.str (Ex.name (s.getD 1 Ex.nil)), AV.int .i64 (Ex.date (s.getD 1 Ex.nil)), AV.sl (List.length (Ex.sub (s.getD 1 Ex.nil))) 5 (Ex.deep (s.getD 1 Ex.nil))]] [AV.ptr 0 0, AV.agg [AV.int .u8 x.x.kind, AV.str x.x.rat, AV.str x.x.name, AV.int .i64 x.x.date, AV.sl x.x.sub.length 5 (Ex.exG x.x.sub)]] ∧ eqH [.box [AV.sl (List.length (St8.f (n_1.s.err n_2.2))) 3 (fxG (St8.f (n_1.s.err n_2.2))), AV.sl (List.length (St8.c (n_1.s.err n_2.2))) 4 (chG (St8.c (n_1.s.err n_2.2))), AV.int .i64 (St8.day (n_1.s.err n_2.2)), AV.int .i64 (St8.e (n_1.s.err n_2.2))]] [.box [AV.sl x.s.f.length 3 (fxG x.s.f), AV.sl x.s.c.length 4 (chG x.s.c), AV.int .i64 x.s.day, AV.int .i64 x.s.e]] ∧ 1 = 1 ∧ Ex.size x.x < n ∧ VPre (2 : Int) x) fun n => .all (fun (r : Bool × Int) => (St8.e n.s ≠ 0 → r.2 = St8.e n.s) ∧ (St8.e n.s = 0 → r.2 = Ev.g (evA n) ∧ (r.2 = 0 → r.1 = Ev.b (evA n)))) fun n_3 => .leaf (.ret [.bool (bif n_2.1 then true else n_3.1)] [.box [.sl (List.length (St8.f (n.s.err n_3.2))) 3 (fxG (St8.f (n.s.err n_3.2))), .sl (List.length (St8.c (n.s.err n_3.2))) 4 (chG (St8.c (n.s.err n_3.2))), .int .i64 (St8.day (n.s.err n_3.2)), .int .i64 (St8.e (n.s.err n_3.2))], .box [.int .u8 k, .str r, .str m, .int .i64 d, .sl s.length 5 (Ex.exG s)]])) (.leaf (.ret [.bool (bif n_2.1 then true else false)] [.box [.sl (List.length (St8.f (n_1.s.err n_2.2))) 3 (fxG (St8.f (n_1.s.err n_2.2))), .sl (List.length (St8.c (n_1.s.err n_2.2))) 4 (chG (St8.c (n_1.s.err n_2.2))), .int .i64 (St8.day (n_1.s.err n_2.2)), .int .i64 (St8.e (n_1.s.err n_2.2))], .box [.int .u8 k, .str r, .str m, .int .i64 d, .sl s.length 5 (Ex.exG s)]]))))) (.ite (decide (k = 15)) (.side ((0 : Int) ≤ 0 ∧ (0 : Int) < s.length) (.ex (fun (x : VX) => eqL [AV.ptr 0 0, AV.agg [AV.int .u8 (Ex.kind (s.getD 0 Ex.nil)), AV.str (Ex.rat (s.getD 0 Ex.nil)), AV.str (Ex.name (s.getD 0 Ex.nil)), AV.int .i64 (Ex.date (s.getD 0 Ex.nil)), AV.sl (List.length (Ex.sub (s.getD 0 Ex.nil))) 5 (Ex.deep (s.getD 0 Ex.nil))]] [AV.ptr 0 0, AV.agg [AV.int .u8 x.x.kind, AV.str x.x.rat, AV.str x.x.name, AV.int .i64 x.x.date, AV.sl x.x.sub.length 5 (Ex.exG x.x.sub)]] ∧ eqH [.box [AV.sl f.length 3 (fxG f), AV.sl c.length 4 (chG c), AV.int .i64 day, AV.int .i64 e]] [.box [AV.sl x.s.f.length 3 (fxG x.s.f), AV.sl x.s.c.length 4 (chG x.s.c), AV.int .i64 x.s.day, AV.int .i64 x.s.e]] ∧ 1 = 1 ∧ Ex.size x.x < n ∧ VPre (2 : Int) x) fun n => .all (fun (r : Bool × Int) => (St8.e n.s ≠ 0 → r.2 = St8.e n.s) ∧ (St8.e n.s = 0 → r.2 = Ev.g (evA n) ∧ (r.2 = 0 → r.1 = Ev.b (evA n)))) fun n_1 => .leaf (.ret [.bool (bif !Prod.fst n_1 then decide (St8.e (n.s.err n_1.2) = (0 : Int)) else false)] [.box [.sl (List.length (St8.f (n.s.err n_1.2))) 3 (fxG (St8.f (n.s.err n_1.2))), .sl (List.length (St8.c (n.s.err n_1.2))) 4 (chG (St8.c (n.s.err n_1.2))), .int .i64 (St8.day (n.s.err n_1.2)), .int .i64 (St8.e (n.s.err n_1.2))], .box [.int .u8 k, .str r, .str m, .int .i64 d, .sl s.length 5 (Ex.exG s)]]))) (.side ((0 : Int) ≤ 0 ∧ (0 : Int) < s.length) (.ex (fun (x : VX) => eqL [AV.ptr 0 0, AV.agg [AV.int .u8 (Ex.kind (s.getD 0 Ex.nil)), AV.str (Ex.rat (s.getD 0 Ex.nil)), AV.str (Ex.name (s.getD 0 Ex.nil)), AV.int .i64 (Ex.date (s.getD 0 Ex.nil)), AV.sl (List.length (Ex.sub (s.getD 0 Ex.nil))) 5 (Ex.deep (s.getD 0 Ex.nil))]] [AV.ptr 0 0, AV.agg [AV.int .u8 x.x.kind, AV.str x.x.rat, AV.str x.x.name, AV.int .i64 x.x.date, AV.sl x.x.sub.length 5 (Ex.exG x.x.sub)]] ∧ eqH [.box [AV.sl f.length 3 (fxG f), AV.sl c.length 4 (chG c), AV.int .i64 day, AV.int .i64 e]] [.box [AV.sl x.s.f.length 3 (fxG x.s.f), AV.sl x.s.c.length 4 (chG x.s.c), AV.int .i64 x.s.day, AV.int .i64 x.s.e]] ∧ 1 = 1 ∧ Ex.size x.x < n ∧ VPre (1 : Int) x) fun n_1 => .all (fun (r : List UInt8 × Int) => (St8.e n_1.s ≠ 0 → r.2 = St8.e n_1.s) ∧ (St8.e n_1.s = 0 → r.2 = Ev.e (evA n_1) ∧ (r.2 = 0 → r.1 = Ev.v (evA n_1)))) fun n_2 => .side ((0 : Int) ≤ 1 ∧ (1 : Int) < s.length) (.ex (fun (x : VX) => eqL [AV.ptr 0 0, AV.agg [AV.int .u8 (Ex.kind (s.getD 1 Ex.nil)), AV.str (Ex.rat (s.getD 1 Ex.nil)), AV.str (Ex.name (s.getD 1 Ex.nil)), AV.int .i64 (Ex.date (s.getD 1 Ex.nil)), AV.sl (List.length (Ex.sub (s.getD 1 Ex.nil))) 5 (Ex.deep (s.getD 1 Ex.nil))]] [AV.ptr 0 0, AV.agg [AV.int .u8 x.x.kind, AV.str x.x.rat, AV.str x.x.name, AV.int .i64 x.x.date, AV.sl x.x.sub.length 5 (Ex.exG x.x.sub)]] ∧ eqH [.box [AV.sl (List.length (St8.f (n_1.s.err n_2.2))) 3 (fxG (St8.f (n_1.s.err n_2.2))), AV.sl (List.length (St8.c (n_1.s.err n_2.2))) 4 (chG (St8.c (n_1.s.err n_2.2))), AV.int .i64 (St8.day (n_1.s.err n_2.2)), AV.int .i64 (St8.e (n_1.s.err n_2.2))]] [.box [AV.sl x.s.f.length 3 (fxG x.s.f), AV.sl x.s.c.length 4 (chG x.s.c), AV.int .i64 x.s.day, AV.int .i64 x.s.e]] ∧ 1 = 1 ∧ Ex.size x.x < n ∧ VPre (1 : Int) x) fun n => .all (fun (r : List UInt8 × Int) => (St8.e n.s ≠ 0 → r.2 = St8.e n.s) ∧ (St8.e n.s = 0 → r.2 = Ev.e (evA n) ∧ (r.2 = 0 → r.1 = Ev.v (evA n)))) fun n_3 => .ex (fun (x : K2) => eqL [AV.ptr 0 0, AV.str n_2.1, AV.str n_3.1] [AV.ptr 0 0, AV.str x.a, AV.str x.b] ∧ eqH [.box [AV.sl (List.length (St8.f (n.s.err n_3.2))) 3 (fxG (St8.f (n.s.err n_3.2))), AV.sl (List.length (St8.c (n.s.err n_3.2))) 4 (chG (St8.c (n.s.err n_3.2))), AV.int .i64 (St8.day (n.s.err n_3.2)), AV.int .i64 (St8.e (n.s.err n_3.2))]] [.box [AV.sl x.s.f.length 3 (fxG x.s.f), AV.sl x.s.c.length 4 (chG x.s.c), AV.int .i64 x.s.day, AV.int .i64 x.s.e]] ∧ 1 = 1 ∧ (St8.e x.s = 0 → x.a.length < 2305843009213693952 ∧ x.b.length < 2305843009213693952)) fun n => .all (fun (r : Int × Int) => r = cmpE n.s.e n.a n.b) fun n_4 => .ite (decide (k = 11)) (.leaf (.ret [.bool (decide (n_4.1 < 0))] [.box [.sl (List.length (St8.f (n.s.err n_4.2))) 3 (fxG (St8.f (n.s.err n_4.2))), .sl (List.length (St8.c (n.s.err n_4.2))) 4 (chG (St8.c (n.s.err n_4.2))), .int .i64 (St8.day (n.s.err n_4.2)), .int .i64 (St8.e (n.s.err n_4.2))], .box [.int .u8 k, .str r, .str m, .int .i64 d, .sl s.length 5 (Ex.exG s)]])) (.leaf (.ret [.bool (bif decide (n_4.1 = 0) then decide (St8.e (n.s.err n_4.2) = (0 : Int)) else false)] [.box [.sl (List.length (St8.f (n.s.err n_4.2))) 3 (fxG (St8.f (n.s.err n_4.2))), .sl (List.length (St8.c (n.s.err n_4.2))) 4 (chG (St8.c (n.s.err n_4.2))), .int .i64 (St8.day (n.s.err n_4.2)), .int .i64 (St8.e (n.s.err n_4.2))], .box [.int .u8 k, .str r, .str m, .int .i64 d, .sl s.length 5 (Ex.exG s)]]))))))))) (by kernel_rfl) ?_
 simp only [Tree.holds, zd]
 refine ⟨fun h => ?_, fun h => ?_⟩
 ·have h : e ≠ 0 := by simpa using h
  exact RetR.st9 rfl (hq (false, e) ⟨fun _ => rfl, fun h0 => absurd h0 h⟩) rfl rfl
 have h : e = 0 := by simpa using h
 subst h
 obtain ⟨hs, hf, hfl⟩ := hv rfl
 simp only at hs hf hfl
 have hq0 : ∀ t : Bool × Int, t.2 = ((Ex.mk k r m d s).ev f day).g → (t.2 = 0 → t.1 = ((Ex.mk k r m d s).ev f day).b) → Q (.bool t.1, [(St8.mk f c day t.2).box]) := fun t h1 h2 => hq t ⟨fun h => absurd rfl h, fun _ => ⟨h1, h2⟩⟩
 clear hq
 have hev : (Ex.mk k r m d s).ev f day = evN f day k r m d (Ex.evs f day s) := by rw [Ex.ev]
 have hc := Ex.JF hs
 simp only [Ex.kind, Ex.sub, Ex.rat] at hc
 rw [Ex.size] at hn
 have z0 := fun g => Ex.zH (s := s) (i := 0) g
 have z1 := fun g => Ex.zH (s := s) (i := 1) g
 have fin : ∀ (t : Bool × Int) (b : Blk), t.2 = ((Ex.mk k r m d s).ev f day).g → (t.2 = 0 → t.1 = ((Ex.mk k r m d s).ev f day).b) → RetR (hldC fun k => k.x.size < n + 1 ∧ VPre 2 k) 1 Q [.bool t.1] [.box [.sl f.length 3 (fxG f), .sl c.length 4 (chG c), .int .i64 day, .int .i64 t.2], b] := fun t b h1 h2 => RetR.st9 rfl (hq0 t h1 h2) rfl rfl
 rcases hc with ⟨hk, hl, hs0, hs1⟩ | ⟨hk, hl, hs0, hs1⟩ | ⟨rfl, hl, hs0⟩
 ·iterate 3 refine ⟨fun h => absurd (of_decide_eq_true h) (by omega), fun _ => ?_⟩
  have z0 := z0 (by omega)
  have z1 := z1 (by omega)
  have he : (((Ex.mk k r m d s).ev f day).b, ((Ex.mk k r m d s).ev f day).g) = uf false ((s.getD 0 Ex.nil).ev f day) ((s.getD 1 Ex.nil).ev f day) (JS k) := by
   rw [hev]
   simp only [evN, hldN]
   rw [if_neg (by omega), Ex.q5 (by omega), Ex.q5 (by omega)]
  unfold uf at he
  refine ⟨⟨by decide, by omega⟩, fun _ => ⟨⟨⟨f, c, day, 0⟩, s.getD 0 Ex.nil⟩, ⟨eqX2 _, qj f c day 0, by trivial, by show (s.getD 0 Ex.nil).size < n; omega, fun _ => ⟨hs0, hf, hfl⟩⟩, vE _ _ _, ?_⟩⟩
  intro r0 g0
  obtain ⟨g0, k0⟩ := g0.2 rfl
  simp only [evA] at g0 k0
  refine ⟨⟨by decide, by omega⟩, fun _ => ⟨⟨⟨f, c, day, r0.2⟩, s.getD 1 Ex.nil⟩, ⟨eqX2 _, qj f c day r0.2, by trivial, by show (s.getD 1 Ex.nil).size < n; omega, fun _ => ⟨hs1, hf, hfl⟩⟩, vE _ _ _, ?_⟩⟩
  intro r1 g1
  simp only [evA] at g1
  have hboth : r1.2 = 0 → r0.2 = 0 ∧ r0.1 = ((s.getD 0 Ex.nil).ev f day).v ∧ r1.1 = ((s.getD 1 Ex.nil).ev f day).v ∧ errR r0.1 = 0 ∧ errR r1.1 = 0 ∧ ((Ex.mk k r m d s).ev f day).b = (JS k r0.1 r1.1).1 ∧ ((Ex.mk k r m d s).ev f day).g = (JS k r0.1 r1.1).2 := by
   intro h
   have h3 : r0.2 = 0 := by
    refine Decidable.byContradiction fun h3 => ?_
    exact h3 (by rw [← g1.1 h3]; exact h)
   obtain ⟨q1, k1'⟩ := g1.2 h3
   have k0 := k0 h3
   have k1' := k1' h
   rw [if_neg (by rw [← g0]; simpa using h3), if_neg (by rw [← q1]; simpa using h), ← k0, ← k1'] at he
   have l0 : errR r0.1 = 0 := by rw [k0]; exact Ex.y3 hf day _ hs0 (by rw [← g0]; exact h3)
   have l1 : errR r1.1 = 0 := by rw [k1']; exact Ex.y3 hf day _ hs1 (by rw [← q1]; exact h)
   exact ⟨h3, k0, k1', l0, l1, congrArg Prod.fst he, congrArg Prod.snd he⟩
  refine ⟨⟨⟨f, c, day, r1.2⟩, r0.1, r1.1⟩, ⟨⟨⟨rfl, rfl⟩, rfl, rfl, trivial⟩, qj f c day r1.2, by trivial, fun h => ?_⟩, ⟨_, rfl⟩, ?_⟩
  ·obtain ⟨_, _, _, l0, l1, _⟩ := hboth h
   have l0 := xy l0
   have l1 := xy l1
   exact ⟨by show r0.1.length < _; omega, by show r1.1.length < _; omega⟩
  intro z hz
  simp only at hz
  by_cases h : r1.2 = 0
  ·obtain ⟨h3, k0, k1', l0, l1, e1, e2⟩ := hboth h
   have hz : z = cmpR r0.1 r1.1 := by rw [hz]; unfold cmpE; rw [if_neg (by rw [h]; simp)]
   unfold JS at e1 e2
   refine ⟨fun hk => ?_, fun hk => ?_⟩
   ·have hk : k = 11 := of_decide_eq_true hk
    refine fin (decide (z.1 < 0), z.2) _ ?_ fun h0 => ?_
    ·rw [e2, hz]
     by_cases g : (cmpR r0.1 r1.1).2 = 0
     ·rw [if_neg (by rw [g]; simp)]; exact g
     ·rw [if_pos g]
    ·have h0 : z.2 = 0 := h0
     rw [hz] at h0 ⊢
     rw [e1, if_neg (by rw [h0]; simp), if_pos hk]
   ·have hk : ¬ k = 11 := of_decide_eq_false hk
    refine fin ((bif decide (z.1 = 0) then decide (z.2 = 0) else false), z.2) _ ?_ fun h0 => ?_
    ·rw [e2, hz]
     by_cases g : (cmpR r0.1 r1.1).2 = 0
     ·rw [if_neg (by rw [g]; simp)]; exact g
     ·rw [if_pos g]
    ·have h0 : z.2 = 0 := h0
     rw [hz] at h0 ⊢
     rw [e1, if_neg (by rw [h0]; simp), if_neg hk]
     simp only [h0]
     cases decide ((cmpR r0.1 r1.1).1 = 0) <;> rfl
  ·have hz : z = (0, r1.2) := by rw [hz]; unfold cmpE; rw [if_pos h]
   have hg : ((Ex.mk k r m d s).ev f day).g = r1.2 := by
    have he := congrArg Prod.snd he
    simp only at he
    rw [he]
    by_cases h3 : r0.2 = 0
    ·obtain ⟨q1, _⟩ := g1.2 h3
     rw [if_neg (by rw [← g0]; simpa using h3), if_pos (by rw [← q1]; exact h), q1]
    ·rw [if_pos (by rw [← g0]; exact h3), g1.1 h3, g0]
   subst hz
   refine ⟨fun hk => ?_, fun hk => ?_⟩
   ·exact fin (false, r1.2) _ hg.symm fun h0 => absurd h0 h
   ·refine fin ((bif decide ((0 : Int) = 0) then decide (r1.2 = 0) else false), r1.2) _ hg.symm fun h0 => absurd h0 h
 ·have z0 := z0 (by omega)
  have z1 := z1 (by omega)
  have he : (((Ex.mk k r m d s).ev f day).b, ((Ex.mk k r m d s).ev f day).g) = if ((s.getD 0 Ex.nil).ev f day).g ≠ 0 then (false, ((s.getD 0 Ex.nil).ev f day).g) else if ((s.getD 0 Ex.nil).ev f day).b = decide (k = 14) then (((s.getD 0 Ex.nil).ev f day).b, 0) else (((s.getD 1 Ex.nil).ev f day).b, ((s.getD 1 Ex.nil).ev f day).g) := by
   rw [hev]
   simp only [evN, hldN]
   rw [if_pos (by omega), if_neg (show ¬ k = 15 by omega), Ex.q5 (by omega), Ex.q5 (by omega)]
  have go : ∀ (r0 : Bool × Int), r0.2 = ((s.getD 0 Ex.nil).ev f day).g → (r0.2 = 0 → r0.1 = ((s.getD 0 Ex.nil).ev f day).b) →
    (r0.1 = decide (k = 14) → r0.2 = ((Ex.mk k r m d s).ev f day).g ∧ (r0.2 = 0 → r0.1 = ((Ex.mk k r m d s).ev f day).b)) ∧
    (r0.1 ≠ decide (k = 14) → ∀ r1 : Bool × Int, ((r0.2 ≠ 0 → r1.2 = r0.2) ∧ (r0.2 = 0 → r1.2 = ((s.getD 1 Ex.nil).ev f day).g ∧ (r1.2 = 0 → r1.1 = ((s.getD 1 Ex.nil).ev f day).b))) → r1.2 = ((Ex.mk k r m d s).ev f day).g ∧ (r1.2 = 0 → r1.1 = ((Ex.mk k r m d s).ev f day).b)) := by
   intro r0 g0 k0
   have e1 := congrArg Prod.fst he
   have e2 := congrArg Prod.snd he
   simp only at e1 e2
   rw [e1, e2]
   by_cases h3 : r0.2 = 0
   ·rw [if_neg (by rw [← g0]; simpa using h3), ← k0 h3]
    refine ⟨fun h => ?_, fun h r1 g1 => ?_⟩
    ·rw [if_pos h]; exact ⟨h3, fun _ => rfl⟩
    ·rw [if_neg h]; exact g1.2 h3
   ·rw [if_pos (by rw [← g0]; exact h3)]
    refine ⟨fun h => ⟨g0, fun h0 => absurd h0 h3⟩, fun h r1 g1 => ?_⟩
    rw [g1.1 h3]
    exact ⟨g0, fun h0 => absurd h0 h3⟩
  have first : ∃ r : Bool × Int, ((0 : Int) ≠ 0 → r.2 = 0) ∧ ((0 : Int) = 0 → r.2 = (evA ⟨⟨f, c, day, 0⟩, s.getD 0 Ex.nil⟩).g ∧ (r.2 = 0 → r.1 = (evA ⟨⟨f, c, day, 0⟩, s.getD 0 Ex.nil⟩).b)) := uG _ _ _
  rcases hk with rfl | rfl
  ·refine ⟨fun _ => ?_, fun h => (by cases h)⟩
   refine ⟨⟨by decide, by omega⟩, fun _ => ⟨⟨⟨f, c, day, 0⟩, s.getD 0 Ex.nil⟩, ⟨eqX2 _, qj f c day 0, by trivial, by show (s.getD 0 Ex.nil).size < n; omega, fun _ => ⟨hs0, hf, hfl⟩⟩, first, ?_⟩⟩
   intro r0 g0
   obtain ⟨g0, k0⟩ := g0.2 rfl
   obtain ⟨go1, go2⟩ := go r0 g0 k0
   refine ⟨fun _ => ⟨by decide, by omega⟩, fun _ => ⟨fun hb => ?_, fun hb => ?_⟩⟩
   ·have hb : r0.1 = true := by simpa using hb
    refine ⟨⟨⟨f, c, day, r0.2⟩, s.getD 1 Ex.nil⟩, ⟨eqX2 _, qj f c day r0.2, by trivial, by show (s.getD 1 Ex.nil).size < n; omega, fun _ => ⟨hs1, hf, hfl⟩⟩, uG _ _ _, ?_⟩
    intro r1 g1
    rw [hb]
    obtain ⟨u1, u2⟩ := go2 (by rw [hb]; decide) r1 g1
    exact fin r1 _ u1 u2
   ·have hb : r0.1 = false := by simpa using hb
    rw [hb]
    obtain ⟨u1, u2⟩ := go1 (by rw [hb]; rfl)
    exact fin (false, r0.2) _ u1 (fun h0 => by rw [← u2 h0, hb])
  ·refine ⟨fun h => (by cases h), fun _ => ⟨fun _ => ?_, fun h => (by cases h)⟩⟩
   refine ⟨⟨by decide, by omega⟩, fun _ => ⟨⟨⟨f, c, day, 0⟩, s.getD 0 Ex.nil⟩, ⟨eqX2 _, qj f c day 0, by trivial, by show (s.getD 0 Ex.nil).size < n; omega, fun _ => ⟨hs0, hf, hfl⟩⟩, first, ?_⟩⟩
   intro r0 g0
   obtain ⟨g0, k0⟩ := g0.2 rfl
   obtain ⟨go1, go2⟩ := go r0 g0 k0
   refine ⟨fun _ => ⟨by decide, by omega⟩, fun _ => ⟨fun hb => ?_, fun hb => ?_⟩⟩
   ·have hb : r0.1 = false := by simpa using hb
    refine ⟨⟨⟨f, c, day, r0.2⟩, s.getD 1 Ex.nil⟩, ⟨eqX2 _, qj f c day r0.2, by trivial, by show (s.getD 1 Ex.nil).size < n; omega, fun _ => ⟨hs1, hf, hfl⟩⟩, uG _ _ _, ?_⟩
    intro r1 g1
    rw [hb]
    obtain ⟨u1, u2⟩ := go2 (by rw [hb]; decide) r1 g1
    exact fin r1 _ u1 u2
   ·have hb : r0.1 = true := by simpa using hb
    rw [hb]
    obtain ⟨u1, u2⟩ := go1 (by rw [hb]; rfl)
    exact fin (true, r0.2) _ u1 (fun h0 => by rw [← u2 h0, hb])
 ·iterate 2 refine ⟨fun h => (by cases h), fun _ => ?_⟩
  refine ⟨fun _ => ?_, fun h => (by cases h)⟩
  have z0 := z0 (by omega)
  have he : (((Ex.mk 15 r m d s).ev f day).b, ((Ex.mk 15 r m d s).ev f day).g) = if ((s.getD 0 Ex.nil).ev f day).g ≠ 0 then (false, ((s.getD 0 Ex.nil).ev f day).g) else (!((s.getD 0 Ex.nil).ev f day).b, 0) := by
   rw [hev]
   simp only [evN, hldN]
   rw [if_pos (by decide), if_pos trivial, Ex.q5 (by omega)]
  refine ⟨⟨by decide, by omega⟩, fun _ => ⟨⟨⟨f, c, day, 0⟩, s.getD 0 Ex.nil⟩, ⟨eqX2 _, qj f c day 0, by trivial, by show (s.getD 0 Ex.nil).size < n; omega, fun _ => ⟨hs0, hf, hfl⟩⟩, uG _ _ _, ?_⟩⟩
  intro r0 g0
  obtain ⟨g0, k0⟩ := g0.2 rfl
  simp only [evA] at g0 k0
  have e1 := congrArg Prod.fst he
  have e2 := congrArg Prod.snd he
  simp only at e1 e2
  refine fin ((bif !r0.1 then decide (r0.2 = 0) else false), r0.2) _ ?_ fun h3 => ?_
  ·rw [e2]
   by_cases h3 : r0.2 = 0
   ·rw [if_neg (by rw [← g0]; simpa using h3)]; exact h3
   ·rw [if_pos (by rw [← g0]; exact h3)]; exact g0
  ·have h3 : r0.2 = 0 := h3
   rw [e1, if_neg (by rw [← g0]; simpa using h3), ← k0 h3]
   simp only [h3]
   cases r0.1 <;> rfl
end
theorem Kf : zb Tryd.prog 34 (valC (VPre 1)) ∧ zb Tryd.prog 40 (hldC (VPre 2)) :=
 Xm (fun k : VX => k.x.size) (fun k : VX => k.x.size) fun n h1 h2 => ⟨Vl n h1 h2, WH n h1 h2⟩
theorem Yz : zb Tryd.prog 34 (valC (VPre 1)) := Kf.1
theorem YS : zb Tryd.prog 40 (hldC (VPre 2)) := Kf.2
end Go.Proofs.Tryd
end

/- Evaluation: begin, Value, Holds. -/
section
set_option maxRecDepth 100000
open Go Go.Sx Go.Proofs Go.Nov
namespace Go.Proofs.Tryd
attribute [local simp] eqKV eqA eqA0 eqH eqB eqL eqL0
structure BX where
 x : Ex
 want : Int
 day : Int
 f : List Fx
 c : List Ch
def BX.ask (b : BX) : Int := askE b.x b.want b.day b.f b.c
def kP : Ctr := ctrT false false (fun b : BX => [b.x.exA, .int .u8 b.want, .int .i64 b.day, envA b.f b.c]) (fun _ => []) (fun b => b.x.size < 2 ^ 40 ∧ b.x.zx < 2 ^ 40 ∧ envP (b.f, b.c)) (fun b r => r = b.ask) (fun b (r : Int) => (.ptr 0 0, [(St8.mk b.f b.c b.day r).box]))
noncomputable def GBe : Nat → Option Ctr := fun f => if f = 27 then some (Q8) else if f = 32 then some (yH) else if f = 21 then some (QG) else if f = 35 then some (xG) else none
theorem ze3 : ∀ g c, GBe g = some c → zb Tryd.prog g c := okIf Qm (okIf QI (okIf Z8 (okIf k9 (zn))))
theorem YX : zb Tryd.prog 33 kP := by
 refine zB (fn := Tryd.f33) (c := Tryd.f33.body.getD .skip) rfl rfl rfl (fun h => by cases h) fun b hb O w0 σ0 Q hl0 hq => ?_
 obtain rfl : σ0 = [] := List.length_eq_zero_iff.1 hl0
 obtain ⟨x, want, day, f, c⟩ := b
 obtain ⟨h1, h2, h3⟩ := hb
 replace hq := hq _ rfl
 simp only [BX.ask] at h1 h2 h3 hq
 refine zc.run hmix ze3 [] 400 (T := .ex (fun (x_1 : Ex) => eqL [AV.agg [AV.int .u8 x.kind, AV.str x.rat, AV.str x.name, AV.int .i64 x.date, AV.sl x.sub.length 5 (Ex.exG x.sub)]] [AV.agg [AV.int .u8 x_1.kind, AV.str x_1.rat, AV.str x_1.name, AV.int .i64 x_1.date, AV.sl x_1.sub.length 5 (Ex.exG x_1.sub)]] ∧ Ex.size x_1 < 1099511627776 ∧ Ex.zx x_1 < 1099511627776) fun n => .all (fun (r : Int) => r = Ex.errX n) fun n => .ex (fun (x_1 : Ex) => decide (n = 0) = true → eqL [AV.agg [AV.int .u8 x.kind, AV.str x.rat, AV.str x.name, AV.int .i64 x.date, AV.sl x.sub.length 5 (Ex.exG x.sub)]] [AV.agg [AV.int .u8 x_1.kind, AV.str x_1.rat, AV.str x_1.name, AV.int .i64 x_1.date, AV.sl x_1.sub.length 5 (Ex.exG x_1.sub)]] ∧ Ex.size x_1 < 1152921504606846976 ∧ Ex.zx x_1 < 1099511627776) fun n_1 => .all (fun (x : Int) => decide (n = 0) = true → x = Ex.zt n_1) fun n_2 => .ite (bif decide (n = 0) then !decide (n_2 = want) else false) (.ite false (.ex (fun (x : List Fx × List Ch) => eqL [AV.agg [AV.sl f.length 3 (fxG f), AV.sl c.length 4 (chG c)]] [AV.agg [AV.sl x.1.length 3 (fxG x.1), AV.sl x.2.length 4 (chG x.2)]] ∧ envP x) fun n => .all (fun (r : Int) => r = errE n.1 n.2) fun n => .ex (fun (x : Int) => decide (n = 0) = true → eqL [AV.int .i64 day] [AV.int .i64 x] ∧ True) fun n_3 => .all (fun (x : Bool) => decide (n = 0) = true → x = dayB n_3) fun n_4 => .ite (bif decide (n = 0) then !n_4 else false) (.leaf (.ret [.ptr 2 0] [.box [.int .u8 x.kind, .str x.rat, .str x.name, .int .i64 x.date, .sl x.sub.length 5 (Ex.exG x.sub)], .box [.sl f.length 3 (fxG f), .sl c.length 4 (chG c)], .box [.sl f.length 3 (fxG f), .sl c.length 4 (chG c), .int .i64 day, .int .i64 2]])) (.leaf (.ret [.ptr 2 0] [.box [.int .u8 x.kind, .str x.rat, .str x.name, .int .i64 x.date, .sl x.sub.length 5 (Ex.exG x.sub)], .box [.sl f.length 3 (fxG f), .sl c.length 4 (chG c)], .box [.sl f.length 3 (fxG f), .sl c.length 4 (chG c), .int .i64 day, .int .i64 n]]))) (.ex (fun (x : Int) => decide ((32 : Int) = 0) = true → eqL [AV.int .i64 day] [AV.int .i64 x] ∧ True) fun n => .all (fun (x : Bool) => decide ((32 : Int) = 0) = true → x = dayB n) fun n => .ite (bif decide ((32 : Int) = 0) then !n else false) (.leaf (.ret [.ptr 2 0] [.box [.int .u8 x.kind, .str x.rat, .str x.name, .int .i64 x.date, .sl x.sub.length 5 (Ex.exG x.sub)], .box [.sl f.length 3 (fxG f), .sl c.length 4 (chG c)], .box [.sl f.length 3 (fxG f), .sl c.length 4 (chG c), .int .i64 day, .int .i64 2]])) (.leaf (.ret [.ptr 2 0] [.box [.int .u8 x.kind, .str x.rat, .str x.name, .int .i64 x.date, .sl x.sub.length 5 (Ex.exG x.sub)], .box [.sl f.length 3 (fxG f), .sl c.length 4 (chG c)], .box [.sl f.length 3 (fxG f), .sl c.length 4 (chG c), .int .i64 day, .int .i64 32]])))) (.ite (decide (n = 0)) (.ex (fun (x : List Fx × List Ch) => eqL [AV.agg [AV.sl f.length 3 (fxG f), AV.sl c.length 4 (chG c)]] [AV.agg [AV.sl x.1.length 3 (fxG x.1), AV.sl x.2.length 4 (chG x.2)]] ∧ envP x) fun n => .all (fun (r : Int) => r = errE n.1 n.2) fun n => .ex (fun (x : Int) => decide (n = 0) = true → eqL [AV.int .i64 day] [AV.int .i64 x] ∧ True) fun n_3 => .all (fun (x : Bool) => decide (n = 0) = true → x = dayB n_3) fun n_4 => .ite (bif decide (n = 0) then !n_4 else false) (.leaf (.ret [.ptr 2 0] [.box [.int .u8 x.kind, .str x.rat, .str x.name, .int .i64 x.date, .sl x.sub.length 5 (Ex.exG x.sub)], .box [.sl f.length 3 (fxG f), .sl c.length 4 (chG c)], .box [.sl f.length 3 (fxG f), .sl c.length 4 (chG c), .int .i64 day, .int .i64 2]])) (.leaf (.ret [.ptr 2 0] [.box [.int .u8 x.kind, .str x.rat, .str x.name, .int .i64 x.date, .sl x.sub.length 5 (Ex.exG x.sub)], .box [.sl f.length 3 (fxG f), .sl c.length 4 (chG c)], .box [.sl f.length 3 (fxG f), .sl c.length 4 (chG c), .int .i64 day, .int .i64 n]]))) (.ex (fun (x : Int) => decide (n = 0) = true → eqL [AV.int .i64 day] [AV.int .i64 x] ∧ True) fun n_3 => .all (fun (x : Bool) => decide (n = 0) = true → x = dayB n_3) fun n_4 => .ite (bif decide (n = 0) then !n_4 else false) (.leaf (.ret [.ptr 2 0] [.box [.int .u8 x.kind, .str x.rat, .str x.name, .int .i64 x.date, .sl x.sub.length 5 (Ex.exG x.sub)], .box [.sl f.length 3 (fxG f), .sl c.length 4 (chG c)], .box [.sl f.length 3 (fxG f), .sl c.length 4 (chG c), .int .i64 day, .int .i64 2]])) (.leaf (.ret [.ptr 2 0] [.box [.int .u8 x.kind, .str x.rat, .str x.name, .int .i64 x.date, .sl x.sub.length 5 (Ex.exG x.sub)], .box [.sl f.length 3 (fxG f), .sl c.length 4 (chG c)], .box [.sl f.length 3 (fxG f), .sl c.length 4 (chG c), .int .i64 day, .int .i64 n]]))))) (by kernel_rfl) ?_
 simp only [Tree.holds, zd]
 have eE : eqL [AV.agg [AV.sl f.length 3 (fxG f), AV.sl c.length 4 (chG c)]] [envA f c] := ⟨⟨⟨rfl, rfl, za _ _ _⟩, ⟨rfl, rfl, za _ _ _⟩, trivial⟩, trivial⟩
 have eX : eqL [x.exA] [x.exA] := ⟨⟨⟨rfl, rfl⟩, rfl, rfl, ⟨rfl, rfl⟩, ⟨rfl, rfl, za _ _ _⟩, trivial⟩, trivial⟩
 generalize hask : askE x want day f c = ask at hq
 have ret : ∀ (b0 b1 : Blk), RetR kP 0 Q [.ptr 2 0] [b0, b1, .box [AV.sl f.length 3 (fxG f), AV.sl c.length 4 (chG c), AV.int IntKind.i64 day, AV.int IntKind.i64 ask]] := by
  intro b0 b1
  refine RetR.outs [2] rfl rfl hq (fun h => by cases h) ?_ ?_ rfl
  ·exact ⟨rfl, rfl⟩
  ·exact qj f c day ask
 have tail : ∀ (e0 : Int) (b0 b1 : Blk), (if e0 = 0 then (if dayB day = true then 0 else 2) else e0) = ask → ∃ n3 : Int, ((decide (e0 = 0) = true → eqL [AV.int .i64 day] [AV.int .i64 n3] ∧ True) ∧ (∃ b : Bool, decide (e0 = 0) = true → b = dayB n3) ∧ ∀ b : Bool, (decide (e0 = 0) = true → b = dayB n3) →
   ((bif decide (e0 = 0) then !b else false) = true → RetR kP 0 Q [.ptr 2 0] [b0, b1, .box [AV.sl f.length 3 (fxG f), AV.sl c.length 4 (chG c), AV.int IntKind.i64 day, AV.int IntKind.i64 2]]) ∧
   ((bif decide (e0 = 0) then !b else false) = false → RetR kP 0 Q [.ptr 2 0] [b0, b1, .box [AV.sl f.length 3 (fxG f), AV.sl c.length 4 (chG c), AV.int IntKind.i64 day, AV.int IntKind.i64 e0]])) := by
  intro e0 b0 b1 h
  refine ⟨day, fun _ => ⟨⟨⟨rfl, rfl⟩, trivial⟩, trivial⟩, ⟨_, fun _ => rfl⟩, fun b hb => ?_⟩
  by_cases h0 : e0 = 0
  ·have hb := hb (decide_eq_true h0)
   rw [if_pos h0] at h
   rw [decide_eq_true h0, hb, h0]
   cases hd : dayB day with
   | true =>
    rw [hd, if_pos rfl] at h
    rw [h]
    exact ⟨fun h => (by cases h), fun _ => ret _ _⟩
   | false =>
    rw [hd, if_neg (by decide)] at h
    rw [h]
    exact ⟨fun _ => ret _ _, fun h => (by cases h)⟩
  ·rw [if_neg h0] at h
   rw [decide_eq_false h0, h]
   exact ⟨fun h => (by cases h), fun _ => ret _ _⟩
 have chk : ∀ (b0 b1 : Blk), x.errX = 0 → x.zt = want → ∃ n : List Fx × List Ch, (eqL [AV.agg [AV.sl f.length 3 (fxG f), AV.sl c.length 4 (chG c)]] [AV.agg [AV.sl n.1.length 3 (fxG n.1), AV.sl n.2.length 4 (chG n.2)]] ∧ envP n) ∧ (∃ r, r = errE n.1 n.2) ∧ ∀ r : Int, r = errE n.1 n.2 →
   ∃ n3 : Int, ((decide (r = 0) = true → eqL [AV.int .i64 day] [AV.int .i64 n3] ∧ True) ∧ (∃ b : Bool, decide (r = 0) = true → b = dayB n3) ∧ ∀ b : Bool, (decide (r = 0) = true → b = dayB n3) →
   ((bif decide (r = 0) then !b else false) = true → RetR kP 0 Q [.ptr 2 0] [b0, b1, .box [AV.sl f.length 3 (fxG f), AV.sl c.length 4 (chG c), AV.int IntKind.i64 day, AV.int IntKind.i64 2]]) ∧
   ((bif decide (r = 0) then !b else false) = false → RetR kP 0 Q [.ptr 2 0] [b0, b1, .box [AV.sl f.length 3 (fxG f), AV.sl c.length 4 (chG c), AV.int IntKind.i64 day, AV.int IntKind.i64 r]])) := by
  intro b0 b1 g1 g2
  refine ⟨(f, c), ⟨eE, h3⟩, ⟨_, rfl⟩, ?_⟩
  rintro _ rfl
  refine tail _ _ _ ?_
  rw [← hask, zf5 g1 g2]
 refine ⟨x, ⟨eX, h1, h2⟩, ⟨_, rfl⟩, ?_⟩
 rintro _ rfl
 refine ⟨x, fun _ => ⟨eX, by omega, h2⟩, ⟨_, fun _ => rfl⟩, ?_⟩
 intro z hz
 by_cases g1 : x.errX = 0
 ·have hz := hz (decide_eq_true g1)
  subst hz
  refine ⟨fun hc => ⟨fun h => (by cases h), fun _ => ?_⟩, fun hc => ⟨fun _ => ?_, fun h => absurd g1 (of_decide_eq_false h)⟩⟩
  ·have g2 : ¬ x.zt = want := by
    rw [decide_eq_true g1] at hc
    simpa using hc
   refine tail 32 _ _ ?_
   rw [← hask, zex g1 g2]
   rfl
  ·have g2 : x.zt = want := by
    rw [decide_eq_true g1] at hc
    simpa using hc
   exact chk _ _ g1 g2
 ·refine ⟨fun hc => ?_, fun _ => ⟨fun h => absurd (of_decide_eq_true h) g1, fun _ => ?_⟩⟩
  ·rw [decide_eq_false g1] at hc; cases hc
  ·refine tail _ _ _ ?_
   rw [← hask, zer g1, if_neg g1]
structure VI where
 x : Ex
 day : Int
 f : List Fx
 c : List Ch
def VI.ok (k : VI) : Prop := k.x.size < 2 ^ 40 ∧ k.x.zx < 2 ^ 40 ∧ envP (k.f, k.c)
def YH : Ctr := ctrP true (fun k : VI => [k.x.exA, .int .i64 k.day, envA k.f k.c]) VI.ok (fun k r => r = zZ k.x k.day k.f k.c) (fun _ (r : List UInt8 × Int) => (.tup [.str r.1, .int .i64 r.2], []))
noncomputable def GVh : Nat → Option Ctr := fun f => if f = 33 then some (kP) else if f = 34 then some ((valC (VPre 1))) else if f = 40 then some ((hldC (VPre 2))) else none
theorem zdx : ∀ g c, GVh g = some c → zb Tryd.prog g c := okIf YX (okIf Yz (okIf YS (zn)))
theorem JK : zb Tryd.prog 11 YH := by
 refine ze (fn := Tryd.f11) (c := Tryd.f11.body.getD .skip) rfl rfl rfl fun k hk O w0 Q hq => ?_
 obtain ⟨x, day, f, c⟩ := k
 obtain ⟨h1, h2, h3⟩ := hk
 replace hq := hq _ rfl
 simp only at h1 h2 h3 hq
 unfold zZ at hq
 refine zc.run hmix zdx [] 400 (T := .ex (fun (x_1 : BX) => eqL [AV.agg [AV.int .u8 x.kind, AV.str x.rat, AV.str x.name, AV.int .i64 x.date, AV.sl x.sub.length 5 (Ex.exG x.sub)], AV.int .u8 1, AV.int .i64 day, AV.agg [AV.sl f.length 3 (fxG f), AV.sl c.length 4 (chG c)]] [AV.agg [AV.int .u8 x_1.x.kind, AV.str x_1.x.rat, AV.str x_1.x.name, AV.int .i64 x_1.x.date, AV.sl x_1.x.sub.length 5 (Ex.exG x_1.x.sub)], AV.int .u8 x_1.want, AV.int .i64 x_1.day, AV.agg [AV.sl x_1.f.length 3 (fxG x_1.f), AV.sl x_1.c.length 4 (chG x_1.c)]] ∧ eqH [] [] ∧ 0 = 0 ∧ Ex.size x_1.x < 1099511627776 ∧ Ex.zx x_1.x < 1099511627776 ∧ envP (BX.f x_1, BX.c x_1)) fun n => .all (fun (r : Int) => r = BX.ask n) fun n_1 => .ex (fun (x_1 : VX) => eqL [AV.ptr 0 0, AV.agg [AV.int .u8 x.kind, AV.str x.rat, AV.str x.name, AV.int .i64 x.date, AV.sl x.sub.length 5 (Ex.exG x.sub)]] [AV.ptr 0 0, AV.agg [AV.int .u8 x_1.x.kind, AV.str x_1.x.rat, AV.str x_1.x.name, AV.int .i64 x_1.x.date, AV.sl x_1.x.sub.length 5 (Ex.exG x_1.x.sub)]] ∧ eqH [.box [AV.sl n.f.length 3 (fxG n.f), AV.sl n.c.length 4 (chG n.c), AV.int .i64 n.day, AV.int .i64 n_1]] [.box [AV.sl x_1.s.f.length 3 (fxG x_1.s.f), AV.sl x_1.s.c.length 4 (chG x_1.s.c), AV.int .i64 x_1.s.day, AV.int .i64 x_1.s.e]] ∧ 1 = 1 ∧ VPre (1 : Int) x_1) fun n => .all (fun (r : List UInt8 × Int) => (St8.e n.s ≠ 0 → r.2 = St8.e n.s) ∧ (St8.e n.s = 0 → r.2 = Ev.e (evA n) ∧ (r.2 = 0 → r.1 = Ev.v (evA n)))) fun n_2 => .ite (!decide (St8.e (n.s.err n_2.2) = (0 : Int))) (.leaf (.ret [.str (Array.toList #[]), .int .i64 (St8.e (n.s.err n_2.2))] [.box [.int .u8 x.kind, .str x.rat, .str x.name, .int .i64 x.date, .sl x.sub.length 5 (Ex.exG x.sub)], .box [.sl f.length 3 (fxG f), .sl c.length 4 (chG c)], .box [.sl (List.length (St8.f (n.s.err n_2.2))) 3 (fxG (St8.f (n.s.err n_2.2))), .sl (List.length (St8.c (n.s.err n_2.2))) 4 (chG (St8.c (n.s.err n_2.2))), .int .i64 (St8.day (n.s.err n_2.2)), .int .i64 (St8.e (n.s.err n_2.2))]])) (.leaf (.ret [.str n_2.1, .int .i64 0] [.box [.int .u8 x.kind, .str x.rat, .str x.name, .int .i64 x.date, .sl x.sub.length 5 (Ex.exG x.sub)], .box [.sl f.length 3 (fxG f), .sl c.length 4 (chG c)], .box [.sl (List.length (St8.f (n.s.err n_2.2))) 3 (fxG (St8.f (n.s.err n_2.2))), .sl (List.length (St8.c (n.s.err n_2.2))) 4 (chG (St8.c (n.s.err n_2.2))), .int .i64 (St8.day (n.s.err n_2.2)), .int .i64 (St8.e (n.s.err n_2.2))]]))) (by kernel_rfl) ?_
 simp only [Tree.holds, zd]
 have eB : eqL [x.exA, .int .u8 1, .int .i64 day, envA f c] [x.exA, .int .u8 1, .int .i64 day, envA f c] := ⟨⟨⟨rfl, rfl⟩, rfl, rfl, ⟨rfl, rfl⟩, ⟨rfl, rfl, za _ _ _⟩, trivial⟩, ⟨rfl, rfl⟩, ⟨rfl, rfl⟩, ⟨⟨rfl, rfl, za _ _ _⟩, ⟨rfl, rfl, za _ _ _⟩, trivial⟩, trivial⟩
 refine ⟨⟨x, 1, day, f, c⟩, ⟨eB, trivial, trivial, h1, h2, h3⟩, ⟨_, rfl⟩, ?_⟩
 rintro e he
 have he : e = askE x 1 day f c := he
 rw [← he] at hq
 have hv : VPre 1 ⟨⟨f, c, day, e⟩, x⟩ := by
  intro h0
  have h0 : e = 0 := h0
  obtain ⟨_, g2, g3, _⟩ := YY (he.symm.trans h0)
  obtain ⟨g4, g5, _⟩ := Zd.1 g3
  refine ⟨g2, g5, ?_⟩
  show f.length < 2 ^ 40
  omega
 refine ⟨⟨⟨f, c, day, e⟩, x⟩, ⟨zeq x, qj f c day e, trivial, hv⟩, vE _ _ _, ?_⟩
 intro r hr
 simp only [evA] at hr
 refine ⟨fun h => ?_, fun h => ?_⟩
 ·have h : r.2 ≠ 0 := by
   intro h0
   have h' : (!decide (r.2 = 0)) = true := h
   rw [h0] at h'; cases h'
  have eq : (if e ≠ 0 then ([], e) else if (x.ev f day).e ≠ 0 then ([], (x.ev f day).e) else ((x.ev f day).v, 0)) = (([] : List UInt8), r.2) := by
   by_cases h0 : e = 0
   ·obtain ⟨q1, _⟩ := hr.2 h0
    rw [if_neg (by rw [h0]; simp), if_pos (by rw [← q1]; exact h), q1]
   ·rw [if_pos h0, hr.1 h0]
  rw [eq] at hq
  exact RetR.scal hq rfl (by simp [resV, St8.err])
 ·have h : r.2 = 0 := by
   have h' : (!decide (r.2 = 0)) = false := h
   simpa using h'
  have h0 : e = 0 := Decidable.byContradiction fun h0 => h0 (by rw [← hr.1 h0]; exact h)
  obtain ⟨q1, k1⟩ := hr.2 h0
  have eq : (if e ≠ 0 then ([], e) else if (x.ev f day).e ≠ 0 then ([], (x.ev f day).e) else ((x.ev f day).v, 0)) = (r.1, 0) := by
   rw [if_neg (by rw [h0]; simp), if_neg (by rw [← q1, h]; simp), k1 h]
  rw [eq] at hq
  exact RetR.scal hq rfl (by simp [resV])
end Go.Proofs.Tryd
end

/- What is known, of bounded size. -/
section
open Go Go.Sx Go.Proofs Go.Nov
namespace Go.Proofs.Tryd
def zcr (p : List Fx × List Ch) : Prop := p.1.length < 2 ^ 60 ∧ p.2.length < 2 ^ 60 ∧ (∀ j, j < p.1.length → JL (p.1.getD j Fx.nil)) ∧ ∀ j, j < p.2.length → VQ (p.2.getD j Ch.nil)
theorem Yn {p : List Fx × List Ch} (h : fitP p) : envP p := by
 obtain ⟨h1, h2, h3, h4⟩ := h
 refine ⟨by omega, by omega, fun j hj => ?_, fun j hj => ?_⟩
 ·obtain ⟨a, b⟩ := h3 j hj; exact ⟨by omega, by omega⟩
 ·obtain ⟨a, b⟩ := h4 j hj; exact ⟨by omega, by omega⟩
end Go.Proofs.Tryd
end

/- The library's insertion of one element, as a contract: from what its walk shows. -/
section
namespace Go.Sx
variable [Stat]
def Jf (P : Program) (g sz bytes : Nat) : Prop := ∀ (b off n c i vb voff vc : Nat) (cur vcur : Array Value) (el vel : TypeId) (w : World), i < n → n ≤ c → (n + 1) * bytes ≤ 140737488355328 → vb ≠ b →
 w.heap[b]? = some (.cells cur el (0, 0)) → w.heap[vb]? = some (.cells vcur vel (0, 0)) → off + c * sz ≤ cur.size → voff + sz ≤ vcur.size →
 (∀ (j : Nat) (v : Value), j < n * sz → cur[off + j]? = some v → v.oneCell' = true) → (∀ (j : Nat) (v : Value), j < sz → vcur[voff + j]? = some v → v.oneCell' = true) →
 Calls P g #[.slice (some ⟨b, off, none⟩) n c, .int .i64 i, .slice (some ⟨vb, voff, none⟩) 1 vc] w fun e w' => ∃ (b' o' c' : Nat) (cur' : Array Value) (el' : TypeId),
  e = .returned (.slice (some ⟨b', o', none⟩) (n + 1) c') ∧ n + 1 ≤ c' ∧ w'.heap[b']? = some (.cells cur' el' (0, 0)) ∧ o' + c' * sz ≤ cur'.size ∧
  (∀ j, j < (n + 1) * sz → cur'[o' + j]? = if j < i * sz then cur[off + j]? else if j < i * sz + sz then vcur[voff + (j - i * sz)]? else cur[off + (j - sz)]?) ∧
  (b' = b ∨ w.heap.size ≤ b') ∧ w.heap.size ≤ w'.heap.size ∧ (∀ k, k < w.heap.size → k ≠ b → w'.heap[k]? = w.heap[k]?) ∧ w'.os = w.os ∧ w'.tape = w.tape ∧ w'.output = w.output
def insG (i : Nat) (gl gv : Nat → Nat → AV) : Nat → Nat → AV := fun j o => if j < i then gl j o else if j = i then gv 0 o else gl (j - 1) o
theorem Z3 {a b sz o : Nat} (h : a < b) (ho : o < sz) : a * sz + o < b * sz := by
 have : (a + 1) * sz ≤ b * sz := Nat.mul_le_mul_right _ h
 rw [Nat.succ_mul] at this; omega
theorem VU {P : Program} {g : Nat} {fn : Func} {c : Code} (hf : P.funcs[g]? = some fn) (hb : fn.body = some c) (hn : (fn.name == "runtime.NumGoroutine") = false) {sz bytes : Nat} (hsz : 0 < sz) (W : Jf P g sz bytes)
  {gl gv gt : Nat → Nat → AV} {n i : Nat} (hi : i < n) (hbig : (n + 1) * bytes ≤ 140737488355328) (hgt : eqG (n + 1) sz (insG i gl gv) gt) {ctr : Ctr} (hfr : ctr.fresh = false) (hmv : ctr.wv = true) {Q : AV × Heap → Prop}
  (hq : Q (.osl 0 sz 0 (n + 1), [.arr (n + 1) sz gt, .dead])) : qx P g ctr [.osl 0 sz 0 n, .int .i64 i, .osl 1 sz 0 1] [.arr n sz gl, .arr 1 sz gv] Q := by
 intro O w σ vals hg hh hr
 simp only [RepL] at hr
 obtain ⟨v0, r0, rfl, h0, v1, r1, rfl, h1, v2, r2, rfl, h2, rfl⟩ := hr
 simp only [Rep] at h0 h1 h2
 subst h1
 obtain ⟨e0, he0, hl0, a0, cap, rfl, hnc, hr0⟩ := h0
 obtain ⟨e1, he1, hl1, a1, vc, rfl, hvc, hr1⟩ := h2
 rcases hr0 with hr0 | ⟨ad, had, rfl, cur, el, hcur, hsize⟩
 ·omega
 rcases hr1 with hr1 | ⟨vd, hvd, rfl, vcur, vel, hvcur, hvsize⟩
 ·omega
 obtain ⟨hen0, hz0 | ⟨ad', cs0, el0, had', hcs0, hs0, hc0⟩⟩ := hh.blk 0 e0 _ he0 rfl
 ·omega
 rw [had] at had'; cases had'
 rw [hcur] at hcs0; cases hcs0
 obtain ⟨hen1, hz1 | ⟨vd', cs1, el1, hvd', hcs1, hs1, hc1⟩⟩ := hh.blk 1 e1 _ he1 rfl
 ·omega
 rw [hvd] at hvd'; cases hvd'
 rw [hvcur] at hcs1; cases hcs1
 have hne : vd.block ≠ ad.block := fun h => hh.inj 0 1 e0 e1 ad vd he0 he1 had hvd (by decide) h.symm
 have hmb : Mine σ ad.block := ⟨e0, List.mem_of_getElem? he0, ad, had, rfl⟩
 have hbw : ad.block < w.heap.size := hh.lt 0 e0 ad he0 had
 simp only [Nat.zero_mul, Nat.add_zero, Nat.zero_add] at hsize hvsize ⊢
 have hn' : ¬ fn.name = "runtime.NumGoroutine" := by simpa using hn
 left
 refine ⟨by simp [callFunc, hf, hn', hb], ?_⟩
 have hvfit : vd.off + sz ≤ vcur.size := by simpa using hs1
 refine (W ad.block ad.off n cap i vd.block vd.off vc cur vcur el vel w hi hnc hbig hne hcur hvcur hsize hvfit ?_ ?_).mono ?_
 ·intro j v hj hv
  have ho : j % sz < sz := Nat.mod_lt _ hsz
  have hjn : j / sz < n := Nat.div_lt_of_lt_mul (by rw [Nat.mul_comm]; exact hj)
  obtain ⟨c, g1, g2, _⟩ := hc0 (j / sz) (j % sz) hjn ho
  have : j / sz * sz + j % sz = j := by rw [Nat.mul_comm]; exact Nat.div_add_mod j sz
  rw [this, hv] at g1
  cases g1; exact g2
 ·intro j v hj hv
  obtain ⟨c, g1, g2, _⟩ := hc1 0 j (by decide) hj
  rw [Nat.zero_mul, Nat.zero_add, hv] at g1
  cases g1; exact g2
 rintro e w' ⟨b', o', c', cur', el', rfl, hc', hcur', hsz', hel, hb', hws, hkeep, hos, htape, hout⟩
 refine ⟨_, rfl, .osl 0 sz 0 (n + 1), [.arr (n + 1) sz gt, .dead], [⟨some ⟨b', o', none⟩, n + 1⟩, ⟨none, 0⟩], hq, ?_⟩
 have hlt' : b' < w'.heap.size := (Array.getElem?_eq_some_iff.1 hcur').1
 have hmine : ∀ b, Mine [⟨some ⟨b', o', none⟩, n + 1⟩, ⟨none, 0⟩] b → b = b' := by
  rintro b ⟨e, he, ad2, h1, h2⟩
  simp only [List.mem_cons, List.not_mem_nil, or_false] at he
  rcases he with rfl | rfl
  ·cases h1; exact h2.symm
  ·cases h1
 have hown : ∀ b, Own O [⟨some ⟨b', o', none⟩, n + 1⟩, ⟨none, 0⟩] b → O b ∨ b = b' := fun b hb => hb.imp id fun h => hmine b h
 have hx : Ext (Own O σ) w (fun b => Own O [⟨some ⟨b', o', none⟩, n + 1⟩, ⟨none, 0⟩] b ∨ (ctr.fresh = true ∧ b < w.heap.size)) w' := by
  refine ⟨hos, htape, hout, hws, fun b hb hno => hkeep b hb fun h => hno (.inr (h ▸ hmb)), fun b hb => ?_⟩
  rcases hb with hb | ⟨hb, _⟩
  ·rcases hown b hb with hb | rfl
   ·exact .inl (.inl hb)
   ·rcases hb' with rfl | hb'
    ·exact .inl (.inr hmb)
    ·exact .inr hb'
  ·rw [hfr] at hb; cases hb
 refine ⟨?_, ⟨rfl, ?_, ?_, ?_⟩, ⟨fun b hb => Nat.lt_of_lt_of_le (hg.old b hb) hws, ?_, hg.stat.ext ⟨hx.os, hx.tape, hx.output, hx.size, hx.keep, fun b hb => hx.grow b (.inl hb)⟩⟩, Nat.le_refl _, ?_, ⟨hos, htape, hout, hws, fun b hb hno => hkeep b hb fun h => hno (h ▸ hmb), fun b hb => ?_⟩⟩
 ·simp only [Rep]
  exact ⟨⟨some ⟨b', o', none⟩, n + 1⟩, rfl, by simp, some ⟨b', o', none⟩, c', rfl, hc', .inr ⟨⟨b', o', none⟩, rfl, by simp, cur', el', hcur', by simpa using hsz'⟩⟩
 ·intro i j e f a b he hf ha hb hij
  match i, j with
  | 0, 0 => exact absurd rfl hij
  | 0, 1 => simp at hf; subst hf; cases hb
  | 1, _ => simp at he; subst he; cases ha
  | 0, j + 2 => simp at hf
  | i + 2, _ => simp at he
 ·intro i e a he ha
  match i with
  | 0 => simp at he; subst he; cases ha; exact hlt'
  | 1 => simp at he; subst he; cases ha
  | i + 2 => simp at he
 ·intro k e b he hb
  match k with
  | 0 =>
   simp at he hb; subst he; subst hb
   refine ⟨rfl, .inr ⟨_, cur', el', rfl, hcur', ?_, fun j o hj ho => ?_⟩⟩
   ·have : (n + 1) * sz ≤ c' * sz := Nat.mul_le_mul_right _ hc'
    simp only; omega
   ·have hlt := Z3 hj ho
    have he := hel (j * sz + o) hlt
    have hg2 := hgt j o hj ho
    simp only
    rw [he, ← hg2]
    simp only [insG]
    by_cases h1 : j < i
    ·rw [if_pos (Z3 h1 ho), if_pos h1]
     obtain ⟨c, g1, g2, g3⟩ := hc0 j o (by omega) ho
     exact ⟨c, g1, g2, zu hx _ _ g3⟩
    ·have h2 : ¬ j * sz + o < i * sz := by
      have : i * sz ≤ j * sz := Nat.mul_le_mul_right _ (by omega)
      omega
     rw [if_neg h2, if_neg h1]
     by_cases h3 : j = i
     ·subst h3
      rw [if_pos (by omega), if_pos rfl]
      obtain ⟨c, g1, g2, g3⟩ := hc1 0 o (by decide) ho
      refine ⟨c, ?_, g2, zu hx _ _ g3⟩
      rw [← g1]; congr 1; omega
     ·have h4 : (i + 1) * sz ≤ j * sz := Nat.mul_le_mul_right _ (by omega)
      rw [Nat.succ_mul] at h4
      rw [if_neg (by omega), if_neg h3]
      obtain ⟨c, g1, g2, g3⟩ := hc0 (j - 1) o (by omega) ho
      refine ⟨c, ?_, g2, zu hx _ _ g3⟩
      rw [← g1]; congr 1
      have : (j - 1) * sz + sz = j * sz := by rw [← Nat.succ_mul]; congr 1; omega
      omega
  | 1 => simp at hb; subst hb; trivial
  | k + 2 => simp at he
 ·intro k e ad2 he had2
  match k with
  | 0 =>
   simp at he; subst he; cases had2
   simp only
   rcases hb' with rfl | hb'
   ·exact hg.dis 0 e0 ad he0 had
   ·intro hO; have := hg.old _ hO; omega
  | 1 => simp at he; subst he; cases had2
  | k + 2 => simp at he
 ·rw [hmv]
  intro k e he hk
  have hlt := (List.getElem?_eq_some_iff.1 he).1
  have hl := hh.len
  simp at hl hk
  omega
 ·rcases hmine b hb with rfl
  rcases hb' with rfl | hb'
  ·exact .inl hmb
  ·exact .inr hb'
end Go.Sx
end

/- What is known: the library's insertion, by its walk. -/
section
set_option maxRecDepth 100000
open Go Go.Sx Go.Proofs Go.Nov
namespace Go.Proofs.Tryd
attribute [local simp] eqKV eqA eqA0 eqH eqB eqL eqL0
theorem qS {α : Type} {l m : List α} {a : Nat} (h : a + m.length ≤ l.length) (k : Nat) : (l.take a ++ m ++ l.drop (a + m.length))[k]? = if k < a then l[k]? else if k < a + m.length then m[k - a]? else l[k]? := by
 have hl : (l.take a).length = a := by rw [List.length_take]; omega
 rw [List.getElem?_append, List.getElem?_append, hl]
 simp only [List.length_append, hl]
 by_cases h1 : k < a
 ·rw [if_pos (by omega), if_pos h1, if_pos h1, List.getElem?_take, if_pos h1]
 ·rw [if_neg h1, if_neg h1]
  by_cases h2 : k < a + m.length
  ·rw [if_pos h2, if_pos h2]
  ·rw [if_neg h2, if_neg h2, List.getElem?_drop]; congr 1; omega
theorem q8 {l : List Value} {o k j : Nat} : ((l.drop o).take k)[j]? = if j < k then l[o + j]? else none := by
 rw [List.getElem?_take]
 split
 ·rw [List.getElem?_drop]
 ·rfl
theorem KU : Jf Tryd.prog 61 3 40 := by
 intro b off n c i vb voff vc cur vcur el vel w hi hnc hbig hne hB hV hfit hvfit h1 h2
 have hcl : ((cur.toList.drop off).take (n * 3)).length = n * 3 := by
  have : n * 3 ≤ c * 3 := Nat.mul_le_mul_right _ hnc
  simp; omega
 have hvl : ((vcur.toList.drop voff).take 3).length = 3 := by simp; omega
 have hcs : ∀ j v, ((cur.toList.drop off).take (n * 3))[j]? = some v → w.cell? ⟨b, off + j, none⟩ = some v := fun j v hj => by
  rw [q8] at hj
  split at hj
  ·simp only [World.cell?, hB]; simpa using hj
  ·cases hj
 have hvs : ∀ j v, ((vcur.toList.drop voff).take 3)[j]? = some v → w.cell? ⟨vb, voff + j, none⟩ = some v := fun j v hj => by
  rw [q8] at hj
  split at hj
  ·simp only [World.cell?, hV]; simpa using hj
  ·cases hj
 have h1c : ∀ v ∈ (cur.toList.drop off).take (n * 3), v.oneCell' = true := fun v hv => by
  obtain ⟨j, hj⟩ := List.getElem?_of_mem hv
  rw [q8] at hj
  split at hj
  ·rename_i hlt; exact h1 j v hlt (by simpa using hj)
  ·cases hj
 have h1v : ∀ v ∈ (vcur.toList.drop voff).take 3, v.oneCell' = true := fun v hv => by
  obtain ⟨j, hj⟩ := List.getElem?_of_mem hv
  rw [q8] at hj
  split at hj
  ·rename_i hlt; exact h2 j v hlt (by simpa using hj)
  ·cases hj
 have hcg : ∀ j, j < n * 3 → ((cur.toList.drop off).take (n * 3))[j]? = cur[off + j]? := fun j hj => by rw [q8, if_pos hj]; simp
 have hvg : ∀ j, j < 3 → ((vcur.toList.drop voff).take 3)[j]? = vcur[voff + j]? := fun j hj => by rw [q8, if_pos hj]; simp
 generalize (cur.toList.drop off).take (n * 3) = cs at hcl hcs h1c hcg
 generalize (vcur.toList.drop voff).take 3 = vs at hvl hvs h1v hvg
 have hin3 : i * 3 + 3 ≤ n * 3 := by have := Nat.mul_le_mul_right 3 (show i + 1 ≤ n from hi); omega
 have hdl : (cs.drop (i * 3)).length = n * 3 - i * 3 := by rw [List.length_drop, hcl]
 have hbw : b < w.heap.size := (Array.getElem?_eq_some_iff.1 hB).1
 by_cases hroom : n + 1 ≤ c
 ·have hcn : (n + 1) * 3 ≤ c * 3 := Nat.mul_le_mul_right _ hroom
  obtain ⟨X1, hX1⟩ : ∃ X1, X1 = cur.toList.take (off + (i + 1) * 3) ++ cs.drop (i * 3) ++ cur.toList.drop (off + (i + 1) * 3 + (cs.drop (i * 3)).length) := ⟨_, rfl⟩
  obtain ⟨X2, hX2⟩ : ∃ X2, X2 = X1.take (off + i * 3) ++ vs ++ X1.drop (off + i * 3 + vs.length) := ⟨_, rfl⟩
  have hX1l : X1.length = cur.size := by rw [hX1]; simp only [List.length_append, List.length_take, List.length_drop, Array.length_toList, hdl, hcl]; omega
  have hX2l : X2.length = cur.size := by rw [hX2]; simp only [List.length_append, List.length_take, List.length_drop, hX1l, hvl]; omega
  have g1 : ∀ k : Nat, X1[k]? = (if k < off + (i + 1) * 3 then cur.toList[k]? else if k < off + (i + 1) * 3 + (cs.drop (i * 3)).length then (cs.drop (i * 3))[k - (off + (i + 1) * 3)]? else cur.toList[k]?) := fun k => by rw [hX1]; exact qS (by simp only [Array.length_toList, hdl]; omega) k
  have g2 : ∀ k : Nat, X2[k]? = (if k < off + i * 3 then X1[k]? else if k < off + i * 3 + (vs).length then (vs)[k - (off + i * 3)]? else X1[k]?) := fun k => by rw [hX2]; exact qS (by rw [hX1l, hvl]; omega) k
  refine (WW b off n c i vb voff vc cur vcur el vel cs vs w hi hroom (by omega) hne hB hV hfit hcl hvl hcs hvs h1c h1v X1 X2 hX1 hX2).mono ?_
  rintro e w' ⟨he, hh, hos, htape, hout⟩
  refine ⟨b, off, c, X2.toArray, el, he, hroom, ?_, by simp only [List.size_toArray, hX2l]; omega, ?_, .inl rfl, ?_, ?_, hos, htape, hout⟩
  ·rw [hh]; exact setRow_heap _ b _ _ el _ (setRow_heap w b cur _ el _ hB)
  ·intro j hj
   simp only [List.getElem?_toArray, g2, g1, hvl, hdl]
   by_cases k1 : j < i * 3
   ·rw [if_pos (by omega), if_pos (by omega), if_pos k1]; simp
   ·rw [if_neg (by omega), if_neg k1]
    by_cases k2 : j < i * 3 + 3
    ·rw [if_pos (by omega), if_pos k2, show off + j - (off + i * 3) = j - i * 3 by omega, hvg _ (by omega)]
    ·rw [if_neg (by omega), if_neg k2, if_neg (by omega), if_pos (by omega), List.getElem?_drop, hcg _ (by omega)]; congr 1; omega
  ·rw [hh]; simp
  ·intro k hk hkb
   rw [hh, setRow_other _ b k _ hkb, setRow_other _ b k _ hkb]
 ·have hc1 : c < n + 1 := by omega
  obtain ⟨G, hG⟩ : ∃ G, G = grownCap w (n + 1) c 31 := ⟨_, rfl⟩
  have hGn : n + 1 ≤ G := by rw [hG]; exact grownCap_ge w _ _ _
  obtain ⟨zs, hz⟩ : ∃ zs : List Value, Builtin.zeroCells (Value.agg #[.string ⟨#[]⟩, .int .i64 0, .string ⟨#[]⟩]).cells (n + 1 - i) = zs.toArray := ⟨_, (Array.toArray_toList).symm⟩
  obtain ⟨rest, hrest⟩ : ∃ zs : List Value, Builtin.zeroCells (Value.agg #[.string ⟨#[]⟩, .int .i64 0, .string ⟨#[]⟩]).cells (G - (n + 1)) = zs.toArray := ⟨_, (Array.toArray_toList).symm⟩
  have hzl : zs.length = (n + 1 - i) * 3 := by
   have := congrArg Array.size hz
   simpa [Builtin.zeroCells, Value.cells] using this.symm
  have hrl : rest.length = (G - (n + 1)) * 3 := by
   have := congrArg Array.size hrest
   simpa [Builtin.zeroCells, Value.cells] using this.symm
  obtain ⟨ROW, hROW⟩ : ∃ ROW, ROW = cs.take (i * 3) ++ zs ++ rest := ⟨_, rfl⟩
  obtain ⟨X1, hX1⟩ : ∃ X1, X1 = ROW.take (i * 3) ++ vs ++ ROW.drop (i * 3 + vs.length) := ⟨_, rfl⟩
  obtain ⟨X2, hX2⟩ : ∃ X2, X2 = X1.take ((i + 1) * 3) ++ cs.drop (i * 3) ++ X1.drop ((i + 1) * 3 + (cs.drop (i * 3)).length) := ⟨_, rfl⟩
  have hsum : (n + 1) * 3 + (G - (n + 1)) * 3 = G * 3 := by rw [← Nat.add_mul]; congr 1; omega
  have hsum2 : i * 3 + (n + 1 - i) * 3 = (n + 1) * 3 := by rw [← Nat.add_mul]; congr 1; omega
  have hROWl : ROW.length = G * 3 := by
   rw [hROW]; simp only [List.length_append, List.length_take, hcl, hzl, hrl]; omega
  have hX1l : X1.length = G * 3 := by rw [hX1]; simp only [List.length_append, List.length_take, List.length_drop, hROWl, hvl]; omega
  have hX2l : X2.length = G * 3 := by rw [hX2]; simp only [List.length_append, List.length_take, List.length_drop, hX1l, hdl, hcl]; omega
  have g1 : ∀ k : Nat, X1[k]? = (if k < i * 3 then ROW[k]? else if k < i * 3 + (vs).length then (vs)[k - (i * 3)]? else ROW[k]?) := fun k => by rw [hX1]; exact qS (by rw [hROWl, hvl]; omega) k
  have g2 : ∀ k : Nat, X2[k]? = (if k < (i + 1) * 3 then X1[k]? else if k < (i + 1) * 3 + (cs.drop (i * 3)).length then (cs.drop (i * 3))[k - ((i + 1) * 3)]? else X1[k]?) := fun k => by rw [hX2]; exact qS (by rw [hX1l, hdl]; omega) k
  have g0 : ∀ k, k < i * 3 → ROW[k]? = cs[k]? := fun k hk => by
   rw [hROW, List.append_assoc, List.getElem?_append_left (by rw [List.length_take]; omega), List.getElem?_take, if_pos hk]
  refine (Xh b off n c i vb voff vc cur vcur el vel cs vs w hi hnc hc1 hbig hB hV hcl hvl hcs hvs h1c h1v zs hz G hG rest hrest ROW X1 X2 hROW hX1 hX2).mono ?_
  rintro e w' ⟨he, hh, hos, htape, hout⟩
  refine ⟨w.heap.size, 0, G, X2.toArray, 31, he, hGn, ?_, by simp only [List.size_toArray, hX2l]; omega, ?_, .inr (Nat.le_refl _), ?_, ?_, hos, htape, hout⟩
  ·rw [hh]
   exact setRow_heap _ w.heap.size _ _ _ _ (setRow_heap _ w.heap.size _ _ _ _ (show ((w.heap.push _))[w.heap.size]? = some (.cells ROW.toArray 31 (0, 0)) from Array.getElem?_push_size))
  ·intro j hj
   simp only [List.getElem?_toArray, Nat.zero_add, g2, g1, hvl, hdl]
   by_cases k1 : j < i * 3
   ·rw [if_pos (by omega), if_pos k1, if_pos k1, g0 j k1, hcg j (by omega)]
   ·simp only [if_neg k1]
    by_cases k2 : j < i * 3 + 3
    ·rw [if_pos (by omega)]
     simp only [if_pos k2]
     exact hvg _ (by omega)
    ·simp only [if_neg k2]
     rw [if_neg (by omega), if_pos (by omega), List.getElem?_drop, hcg _ (by omega)]; congr 1; omega
  ·rw [hh, setRow_size, setRow_size]
   show _ ≤ (w.heap.push _).size
   rw [Array.size_push]; omega
  ·intro k hk hkb
   rw [hh, setRow_other _ _ k _ (by omega), setRow_other _ _ k _ (by omega)]
   show (w.heap.push _)[k]? = _
   rw [Array.getElem?_push, if_neg (by omega)]
theorem Xp : Jf Tryd.prog 69 4 48 := by
 intro b off n c i vb voff vc cur vcur el vel w hi hnc hbig hne hB hV hfit hvfit h1 h2
 have hcl : ((cur.toList.drop off).take (n * 4)).length = n * 4 := by
  have : n * 4 ≤ c * 4 := Nat.mul_le_mul_right _ hnc
  simp; omega
 have hvl : ((vcur.toList.drop voff).take 4).length = 4 := by simp; omega
 have hcs : ∀ j v, ((cur.toList.drop off).take (n * 4))[j]? = some v → w.cell? ⟨b, off + j, none⟩ = some v := fun j v hj => by
  rw [q8] at hj
  split at hj
  ·simp only [World.cell?, hB]; simpa using hj
  ·cases hj
 have hvs : ∀ j v, ((vcur.toList.drop voff).take 4)[j]? = some v → w.cell? ⟨vb, voff + j, none⟩ = some v := fun j v hj => by
  rw [q8] at hj
  split at hj
  ·simp only [World.cell?, hV]; simpa using hj
  ·cases hj
 have h1c : ∀ v ∈ (cur.toList.drop off).take (n * 4), v.oneCell' = true := fun v hv => by
  obtain ⟨j, hj⟩ := List.getElem?_of_mem hv
  rw [q8] at hj
  split at hj
  ·rename_i hlt; exact h1 j v hlt (by simpa using hj)
  ·cases hj
 have h1v : ∀ v ∈ (vcur.toList.drop voff).take 4, v.oneCell' = true := fun v hv => by
  obtain ⟨j, hj⟩ := List.getElem?_of_mem hv
  rw [q8] at hj
  split at hj
  ·rename_i hlt; exact h2 j v hlt (by simpa using hj)
  ·cases hj
 have hcg : ∀ j, j < n * 4 → ((cur.toList.drop off).take (n * 4))[j]? = cur[off + j]? := fun j hj => by rw [q8, if_pos hj]; simp
 have hvg : ∀ j, j < 4 → ((vcur.toList.drop voff).take 4)[j]? = vcur[voff + j]? := fun j hj => by rw [q8, if_pos hj]; simp
 generalize (cur.toList.drop off).take (n * 4) = cs at hcl hcs h1c hcg
 generalize (vcur.toList.drop voff).take 4 = vs at hvl hvs h1v hvg
 have hin3 : i * 4 + 4 ≤ n * 4 := by have := Nat.mul_le_mul_right 4 (show i + 1 ≤ n from hi); omega
 have hdl : (cs.drop (i * 4)).length = n * 4 - i * 4 := by rw [List.length_drop, hcl]
 have hbw : b < w.heap.size := (Array.getElem?_eq_some_iff.1 hB).1
 by_cases hroom : n + 1 ≤ c
 ·have hcn : (n + 1) * 4 ≤ c * 4 := Nat.mul_le_mul_right _ hroom
  obtain ⟨X1, hX1⟩ : ∃ X1, X1 = cur.toList.take (off + (i + 1) * 4) ++ cs.drop (i * 4) ++ cur.toList.drop (off + (i + 1) * 4 + (cs.drop (i * 4)).length) := ⟨_, rfl⟩
  obtain ⟨X2, hX2⟩ : ∃ X2, X2 = X1.take (off + i * 4) ++ vs ++ X1.drop (off + i * 4 + vs.length) := ⟨_, rfl⟩
  have hX1l : X1.length = cur.size := by rw [hX1]; simp only [List.length_append, List.length_take, List.length_drop, Array.length_toList, hdl, hcl]; omega
  have hX2l : X2.length = cur.size := by rw [hX2]; simp only [List.length_append, List.length_take, List.length_drop, hX1l, hvl]; omega
  have g1 : ∀ k : Nat, X1[k]? = (if k < off + (i + 1) * 4 then cur.toList[k]? else if k < off + (i + 1) * 4 + (cs.drop (i * 4)).length then (cs.drop (i * 4))[k - (off + (i + 1) * 4)]? else cur.toList[k]?) := fun k => by rw [hX1]; exact qS (by simp only [Array.length_toList, hdl]; omega) k
  have g2 : ∀ k : Nat, X2[k]? = (if k < off + i * 4 then X1[k]? else if k < off + i * 4 + (vs).length then (vs)[k - (off + i * 4)]? else X1[k]?) := fun k => by rw [hX2]; exact qS (by rw [hX1l, hvl]; omega) k
  refine (V6 b off n c i vb voff vc cur vcur el vel cs vs w hi hroom (by omega) hne hB hV hfit hcl hvl hcs hvs h1c h1v X1 X2 hX1 hX2).mono ?_
  rintro e w' ⟨he, hh, hos, htape, hout⟩
  refine ⟨b, off, c, X2.toArray, el, he, hroom, ?_, by simp only [List.size_toArray, hX2l]; omega, ?_, .inl rfl, ?_, ?_, hos, htape, hout⟩
  ·rw [hh]; exact setRow_heap _ b _ _ el _ (setRow_heap w b cur _ el _ hB)
  ·intro j hj
   simp only [List.getElem?_toArray, g2, g1, hvl, hdl]
   by_cases k1 : j < i * 4
   ·rw [if_pos (by omega), if_pos (by omega), if_pos k1]; simp
   ·rw [if_neg (by omega), if_neg k1]
    by_cases k2 : j < i * 4 + 4
    ·rw [if_pos (by omega), if_pos k2, show off + j - (off + i * 4) = j - i * 4 by omega, hvg _ (by omega)]
    ·rw [if_neg (by omega), if_neg k2, if_neg (by omega), if_pos (by omega), List.getElem?_drop, hcg _ (by omega)]; congr 1; omega
  ·rw [hh]; simp
  ·intro k hk hkb
   rw [hh, setRow_other _ b k _ hkb, setRow_other _ b k _ hkb]
 ·have hc1 : c < n + 1 := by omega
  obtain ⟨G, hG⟩ : ∃ G, G = grownCap w (n + 1) c 49 := ⟨_, rfl⟩
  have hGn : n + 1 ≤ G := by rw [hG]; exact grownCap_ge w _ _ _
  obtain ⟨zs, hz⟩ : ∃ zs : List Value, Builtin.zeroCells (Value.agg #[.string ⟨#[]⟩, .string ⟨#[]⟩, .int .i64 0, .bool false]).cells (n + 1 - i) = zs.toArray := ⟨_, (Array.toArray_toList).symm⟩
  obtain ⟨rest, hrest⟩ : ∃ zs : List Value, Builtin.zeroCells (Value.agg #[.string ⟨#[]⟩, .string ⟨#[]⟩, .int .i64 0, .bool false]).cells (G - (n + 1)) = zs.toArray := ⟨_, (Array.toArray_toList).symm⟩
  have hzl : zs.length = (n + 1 - i) * 4 := by
   have := congrArg Array.size hz
   simpa [Builtin.zeroCells, Value.cells] using this.symm
  have hrl : rest.length = (G - (n + 1)) * 4 := by
   have := congrArg Array.size hrest
   simpa [Builtin.zeroCells, Value.cells] using this.symm
  obtain ⟨ROW, hROW⟩ : ∃ ROW, ROW = cs.take (i * 4) ++ zs ++ rest := ⟨_, rfl⟩
  obtain ⟨X1, hX1⟩ : ∃ X1, X1 = ROW.take (i * 4) ++ vs ++ ROW.drop (i * 4 + vs.length) := ⟨_, rfl⟩
  obtain ⟨X2, hX2⟩ : ∃ X2, X2 = X1.take ((i + 1) * 4) ++ cs.drop (i * 4) ++ X1.drop ((i + 1) * 4 + (cs.drop (i * 4)).length) := ⟨_, rfl⟩
  have hsum : (n + 1) * 4 + (G - (n + 1)) * 4 = G * 4 := by rw [← Nat.add_mul]; congr 1; omega
  have hsum2 : i * 4 + (n + 1 - i) * 4 = (n + 1) * 4 := by rw [← Nat.add_mul]; congr 1; omega
  have hROWl : ROW.length = G * 4 := by
   rw [hROW]; simp only [List.length_append, List.length_take, hcl, hzl, hrl]; omega
  have hX1l : X1.length = G * 4 := by rw [hX1]; simp only [List.length_append, List.length_take, List.length_drop, hROWl, hvl]; omega
  have hX2l : X2.length = G * 4 := by rw [hX2]; simp only [List.length_append, List.length_take, List.length_drop, hX1l, hdl, hcl]; omega
  have g1 : ∀ k : Nat, X1[k]? = (if k < i * 4 then ROW[k]? else if k < i * 4 + (vs).length then (vs)[k - (i * 4)]? else ROW[k]?) := fun k => by rw [hX1]; exact qS (by rw [hROWl, hvl]; omega) k
  have g2 : ∀ k : Nat, X2[k]? = (if k < (i + 1) * 4 then X1[k]? else if k < (i + 1) * 4 + (cs.drop (i * 4)).length then (cs.drop (i * 4))[k - ((i + 1) * 4)]? else X1[k]?) := fun k => by rw [hX2]; exact qS (by rw [hX1l, hdl]; omega) k
  have g0 : ∀ k, k < i * 4 → ROW[k]? = cs[k]? := fun k hk => by
   rw [hROW, List.append_assoc, List.getElem?_append_left (by rw [List.length_take]; omega), List.getElem?_take, if_pos hk]
  refine (Xt b off n c i vb voff vc cur vcur el vel cs vs w hi hnc hc1 hbig hB hV hcl hvl hcs hvs h1c h1v zs hz G hG rest hrest ROW X1 X2 hROW hX1 hX2).mono ?_
  rintro e w' ⟨he, hh, hos, htape, hout⟩
  refine ⟨w.heap.size, 0, G, X2.toArray, 49, he, hGn, ?_, by simp only [List.size_toArray, hX2l]; omega, ?_, .inr (Nat.le_refl _), ?_, ?_, hos, htape, hout⟩
  ·rw [hh]
   exact setRow_heap _ w.heap.size _ _ _ _ (setRow_heap _ w.heap.size _ _ _ _ (show ((w.heap.push _))[w.heap.size]? = some (.cells ROW.toArray 49 (0, 0)) from Array.getElem?_push_size))
  ·intro j hj
   simp only [List.getElem?_toArray, Nat.zero_add, g2, g1, hvl, hdl]
   by_cases k1 : j < i * 4
   ·rw [if_pos (by omega), if_pos k1, if_pos k1, g0 j k1, hcg j (by omega)]
   ·simp only [if_neg k1]
    by_cases k2 : j < i * 4 + 4
    ·rw [if_pos (by omega)]
     simp only [if_pos k2]
     exact hvg _ (by omega)
    ·simp only [if_neg k2]
     rw [if_neg (by omega), if_pos (by omega), List.getElem?_drop, hcg _ (by omega)]; congr 1; omega
  ·rw [hh, setRow_size, setRow_size]
   show _ ≤ (w.heap.push _).size
   rw [Array.size_push]; omega
  ·intro k hk hkb
   rw [hh, setRow_other _ _ k _ (by omega), setRow_other _ _ k _ (by omega)]
   show (w.heap.push _)[k]? = _
   rw [Array.getElem?_push, if_neg (by omega)]
theorem zb7 {l : List Fx} {x : Fx} {i : Nat} (hi : i ≤ l.length) {gl gv : Nat → Nat → AV} (hl : eqG l.length 3 gl (fxG l)) (hv : eqG 1 3 gv (fxG [x])) : eqG (l.length + 1) 3 (insG i gl gv) (fxG (l.take i ++ x :: l.drop i)) := by
 intro j o hj ho
 have hlt : (l.take i).length = i := by rw [List.length_take]; omega
 simp only [insG]
 have e : fxG (l.take i ++ x :: l.drop i) j o = ((l.take i ++ x :: l.drop i).getD j Fx.nil).cell o := rfl
 rw [e]
 simp only [List.getD, List.getElem?_append, hlt]
 by_cases h1 : j < i
 ·rw [if_pos h1, if_pos h1, hl j o (by omega) ho, List.getElem?_take, if_pos h1]; rfl
 ·rw [if_neg h1, if_neg h1]
  by_cases h2 : j = i
  ·subst h2
   rw [if_pos rfl, hv 0 o (by decide) ho, Nat.sub_self]; rfl
  ·rw [if_neg h2, hl (j - 1) o (by omega) ho]
   obtain ⟨k, hk⟩ := Nat.exists_eq_succ_of_ne_zero (show j - i ≠ 0 by omega)
   rw [hk, List.getElem?_cons_succ, List.getElem?_drop, show i + k = j - 1 by omega]; rfl
theorem zaz {l : List Ch} {x : Ch} {i : Nat} (hi : i ≤ l.length) {gl gv : Nat → Nat → AV} (hl : eqG l.length 4 gl (chG l)) (hv : eqG 1 4 gv (chG [x])) : eqG (l.length + 1) 4 (insG i gl gv) (chG (l.take i ++ x :: l.drop i)) := by
 intro j o hj ho
 have hlt : (l.take i).length = i := by rw [List.length_take]; omega
 simp only [insG]
 have e : chG (l.take i ++ x :: l.drop i) j o = ((l.take i ++ x :: l.drop i).getD j Ch.nil).cell o := rfl
 rw [e]
 simp only [List.getD, List.getElem?_append, hlt]
 by_cases h1 : j < i
 ·rw [if_pos h1, if_pos h1, hl j o (by omega) ho, List.getElem?_take, if_pos h1]; rfl
 ·rw [if_neg h1, if_neg h1]
  by_cases h2 : j = i
  ·subst h2
   rw [if_pos rfl, hv 0 o (by decide) ho, Nat.sub_self]; rfl
  ·rw [if_neg h2, hl (j - 1) o (by omega) ho]
   obtain ⟨k, hk⟩ := Nat.exists_eq_succ_of_ne_zero (show j - i ≠ 0 by omega)
   rw [hk, List.getElem?_cons_succ, List.getElem?_drop, show i + k = j - 1 by omega]; rfl
def zck : Ctr := ctrT false true (fun p : List Fx × Fx × Nat => [.osl 0 3 0 p.1.length, .int .i64 (p.2.2 : Int), .osl 1 3 0 1]) (fun p => [.arr p.1.length 3 (fxG p.1), .arr 1 3 (fxG [p.2.1])]) (fun p => p.2.2 ≤ p.1.length ∧ p.1.length < 2 ^ 40) (fun _ (_ : Unit) => True) (fun p (_ : Unit) => (.osl 0 3 0 (p.1.length + 1), [.arr (p.1.length + 1) 3 (fxG (p.1.take p.2.2 ++ p.2.1 :: p.1.drop p.2.2)), .dead]))
def zd3 : Ctr := ctrT false true (fun p : List Ch × Ch × Nat => [.osl 0 4 0 p.1.length, .int .i64 (p.2.2 : Int), .osl 1 4 0 1]) (fun p => [.arr p.1.length 4 (chG p.1), .arr 1 4 (chG [p.2.1])]) (fun p => p.2.2 ≤ p.1.length ∧ p.1.length < 2 ^ 40) (fun _ (_ : Unit) => True) (fun p (_ : Unit) => (.osl 0 4 0 (p.1.length + 1), [.arr (p.1.length + 1) 4 (chG (p.1.take p.2.2 ++ p.2.1 :: p.1.drop p.2.2)), .dead]))
def zdp : Ctr := ctrT false true (fun p : List Fx × Fx × Nat => [.osl 0 3 0 p.1.length, .int .i64 (p.2.2 : Int), .osl 1 3 0 1]) (fun p => [.arr p.1.length 3 (fxG p.1), .arr 1 3 (fxG [p.2.1])]) (fun p => p.2.2 = p.1.length ∧ p.1.length < 2 ^ 40) (fun _ (_ : Unit) => True) (fun p (_ : Unit) => (.osl 0 3 0 (p.1.length + 1), [.arr (p.1.length + 1) 3 (fxG (p.1.take p.2.2 ++ p.2.1 :: p.1.drop p.2.2)), .dead]))
def zdb : Ctr := ctrT false true (fun p : List Ch × Ch × Nat => [.osl 0 4 0 p.1.length, .int .i64 (p.2.2 : Int), .osl 1 4 0 1]) (fun p => [.arr p.1.length 4 (chG p.1), .arr 1 4 (chG [p.2.1])]) (fun p => p.2.2 = p.1.length ∧ p.1.length < 2 ^ 40) (fun _ (_ : Unit) => True) (fun p (_ : Unit) => (.osl 0 4 0 (p.1.length + 1), [.arr (p.1.length + 1) 4 (chG (p.1.take p.2.2 ++ p.2.1 :: p.1.drop p.2.2)), .dead]))
theorem XT : zb Tryd.prog 61 zdp := by
 refine zB (fn := Tryd.f61) (c := Tryd.f61.body.getD .skip) rfl rfl rfl (fun h => by cases h) fun p hp O w0 σ0 Q hl0 hq => ?_
 obtain ⟨l, x, i⟩ := p
 obtain ⟨h1, h2⟩ := hp
 replace hq := hq () trivial
 simp only at hq h1 h2
 refine zc.run hmix zD [] 400 (T := .side ((0 : Int) ≤ i ∧ (↑i : Int) ≤ l.length) (.ite false (.leaf (.ret [.osl 0 3 0 l.length] [.arr l.length 3 (fxG l), .arr 1 3 (fxG [x])])) (.ite (decide ((↑i : Int) = l.length)) (.side (0 = 0 ∧ l.length ≤ l.length ∧ (l.length + 1) * 40 ≤ 140737488355328) (.leaf (.ret [.osl 0 3 0 (l.length + 1)] [.arr (l.length + 1) 3 (appG l.length (fxG l) (zg (fxG [x]) 0)), .arr 1 3 (fxG [x])]))) (.side (inR .i64 ((↑l.length : Int) + (1 : Int))) .fail)))) (by kernel_rfl) ?_
 simp only [Tree.holds, zd]
 refine ⟨by omega, fun _ => ⟨fun h => by simp at h, fun _ => ⟨fun h => ⟨⟨trivial, Nat.le_refl _, by omega⟩, fun _ => ?_⟩, fun h => ?_⟩⟩⟩
 ·refine RetR.keep [0, 1] rfl rfl (by show ∀ j, j < 2 → _; decide) rfl hq (by simp [resV, exp2, exp1, exp0, z5, eqA2]) ?_ rfl
  refine ⟨⟨rfl, rfl, ?_⟩, trivial, trivial⟩
  have e : l.take i ++ x :: l.drop i = l ++ [x] := by rw [h1, List.take_length, List.drop_length]
  rw [e]
  intro j o hj ho
  simp only [appG, fxG, Qb, zg, Nat.zero_add]
  split
  ·rfl
  ·have : j = l.length := by omega
   subst this
   rw [if_pos rfl, Nat.sub_self]; rfl
 ·exact absurd h1 (by have := of_decide_eq_false h; omega)
theorem XV : zb Tryd.prog 69 zdb := by
 refine zB (fn := Tryd.f69) (c := Tryd.f69.body.getD .skip) rfl rfl rfl (fun h => by cases h) fun p hp O w0 σ0 Q hl0 hq => ?_
 obtain ⟨l, x, i⟩ := p
 obtain ⟨h1, h2⟩ := hp
 replace hq := hq () trivial
 simp only at hq h1 h2
 refine zc.run hmix zD [] 400 (T := .side ((0 : Int) ≤ i ∧ (↑i : Int) ≤ l.length) (.ite false (.leaf (.ret [.osl 0 4 0 l.length] [.arr l.length 4 (chG l), .arr 1 4 (chG [x])])) (.ite (decide ((↑i : Int) = l.length)) (.side (0 = 0 ∧ l.length ≤ l.length ∧ (l.length + 1) * 48 ≤ 140737488355328) (.leaf (.ret [.osl 0 4 0 (l.length + 1)] [.arr (l.length + 1) 4 (appG l.length (chG l) (zg (chG [x]) 0)), .arr 1 4 (chG [x])]))) (.side (inR .i64 ((↑l.length : Int) + (1 : Int))) .fail)))) (by kernel_rfl) ?_
 simp only [Tree.holds, zd]
 refine ⟨by omega, fun _ => ⟨fun h => by simp at h, fun _ => ⟨fun h => ⟨⟨trivial, Nat.le_refl _, by omega⟩, fun _ => ?_⟩, fun h => ?_⟩⟩⟩
 ·refine RetR.keep [0, 1] rfl rfl (by show ∀ j, j < 2 → _; decide) rfl hq (by simp [resV, exp2, exp1, exp0, z5, eqA2]) ?_ rfl
  refine ⟨⟨rfl, rfl, ?_⟩, trivial, trivial⟩
  have e : l.take i ++ x :: l.drop i = l ++ [x] := by rw [h1, List.take_length, List.drop_length]
  rw [e]
  intro j o hj ho
  simp only [appG, chG, Qb, zg, Nat.zero_add]
  split
  ·rfl
  ·have : j = l.length := by omega
   subst this
   rw [if_pos rfl, Nat.sub_self]; rfl
 ·exact absurd h1 (by have := of_decide_eq_false h; omega)
theorem zby : zb Tryd.prog 61 zck := by
 intro args hc Q hq hfr
 obtain ⟨⟨l, x, i⟩, ⟨h1, h2, h3, h4, h5⟩, h6, h7⟩ := hq
 simp only at h1 h2 h3 h4 h5 h7
 rcases Nat.lt_or_ge i l.length with hlt | hge
 ·exact qx.le h1 (qx.leH h2 h3 (VU (fn := Tryd.f61) (c := Tryd.f61.body.getD .skip) rfl rfl rfl (by decide) KU hlt (by omega) (zb7 h4 (za _ _ _) (za _ _ _)) rfl rfl (h7 () trivial)))
 ·exact XT args hc Q ⟨(l, x, i), ⟨h1, h2, h3, by show i = l.length; omega, h5⟩, h6, h7⟩ hfr
theorem zbt : zb Tryd.prog 69 zd3 := by
 intro args hc Q hq hfr
 obtain ⟨⟨l, x, i⟩, ⟨h1, h2, h3, h4, h5⟩, h6, h7⟩ := hq
 simp only at h1 h2 h3 h4 h5 h7
 rcases Nat.lt_or_ge i l.length with hlt | hge
 ·exact qx.le h1 (qx.leH h2 h3 (VU (fn := Tryd.f69) (c := Tryd.f69.body.getD .skip) rfl rfl rfl (by decide) Xp hlt (by omega) (zaz h4 (za _ _ _) (za _ _ _)) rfl rfl (h7 () trivial)))
 ·exact XV args hc Q ⟨(l, x, i), ⟨h1, h2, h3, by show i = l.length; omega, h5⟩, h6, h7⟩ hfr
end Go.Proofs.Tryd
end

/- What is known: the code's places. -/
section
set_option maxRecDepth 100000
open Go Go.Sx Go.Proofs Go.Nov
namespace Go.Proofs.Tryd
attribute [local simp] eqKV eqA eqA0 eqH eqB eqL eqL0
noncomputable def K37 : List Go.Sx.Item := [.code (Tryd.f37.body.getD .skip)]
noncomputable def K49 : List Go.Sx.Item := [.code (Tryd.f49.body.getD .skip)]
noncomputable def GPl : Nat → Option Ctr := fun f => if f = 38 then some (xv) else if f = 48 then some (xF) else if f = 50 then some (Qt) else if f = 39 then some (Qu) else if f = 41 then some (QD) else if f = 51 then some (Jg) else if f = 61 then some (zck) else if f = 69 then some (zd3) else none
theorem Jl : ∀ g c, GPl g = some c → zb Tryd.prog g c := okIf kK (okIf kY (okIf ZT (okIf Z0 (okIf ZH (okIf ZN (okIf zby (okIf zbt (zn))))))))
def SPlc (l : List Fx) (i : Nat) : KV := [(0, fxS l), (2, .fn 38 [] []), (4, .ptr 0 0), (8, .osl 1 3 0 l.length), (10, .int .i64 (i : Int)), (29, .undef), (30, .undef), (31, .undef), (32, .undef), (33, .undef), (34, .undef), (35, .undef), (36, .undef)]
def HPl (l : List Fx) (x : Fx) : Heap := [.box [.str x.name, .int .i64 x.date, .str x.value], .arr l.length 3 (fxG l)]
def SQl (l : List Ch) (i : Nat) : KV := [(0, chS l), (2, .fn 48 [] []), (4, .ptr 0 0), (8, .osl 1 4 0 l.length), (10, .int .i64 (i : Int)), (29, .undef), (30, .undef), (31, .undef), (32, .undef), (33, .undef), (34, .undef), (35, .undef), (36, .undef)]
def HQl (l : List Ch) (x : Ch) : Heap := [.box [.str x.zo, .str x.name, .int .i64 x.date, .bool x.first], .arr l.length 4 (chG l)]
def uj : Ctr := ctrP true (fun p : List Fx × Fx => [fxS p.1, p.2.av, .fn 38 [] []]) (fun p => p.1.length ≤ 1000 ∧ ordB cmpF Fx.nil p.1 = true) (fun p (r : List Fx × Bool) => r = (zw cmpF p.2 p.1, decide ((zw cmpF p.2 p.1).length ≤ 1000))) (fun _ r => (.tup [.osl 0 3 0 r.1.length, .bool r.2], [.arr r.1.length 3 (fxG r.1)]))
theorem WM : zb Tryd.prog 37 uj := by
 refine ze (fn := Tryd.f37) (c := Tryd.f37.body.getD .skip) rfl rfl rfl fun p hp O w0 Q hq => ?_
 obtain ⟨l, x⟩ := p
 obtain ⟨hl, hord⟩ := hp
 replace hq := hq _ rfl
 simp only at hq hl hord
 have hpw := yI Q9 hord
 refine zc.run hmix Jl [0, 2, 4, 8, 10, 29, 30, 31, 32, 33, 34, 35, 36] 400 (T := .ex (fun (x : List Fx) => eqL [AV.sl l.length 3 (fxG l)] [AV.sl x.length 3 (fxG x)] ∧ x.length < 1099511627776) fun n => .all (fun (x : Unit) => True) fun n_1 => .ex (fun (x_1 : List Fx × Fx) => eqL [AV.sl n.length 3 (zg (fxG n) 0), AV.agg [AV.str x.name, AV.int .i64 x.date, AV.str x.value], AV.fn 38 [] []] [AV.sl x_1.1.length 3 (fxG x_1.1), AV.agg [AV.str x_1.2.name, AV.int .i64 x_1.2.date, AV.str x_1.2.value], AV.fn 38 [] []] ∧ x_1.1.length < 1099511627776) fun n_2 => .all (fun (r : Int) => r = idxB (fun (x : Fx) => decide (cmpF x n_2.2 = 0)) n_2.1) fun n_3 => .ite (decide ((0 : Int) ≤ n_3)) (.side ((0 : Int) ≤ n_3 ∧ n_3 < (↑n.length : Int)) (.leaf (.ret [.osl 1 3 0 n.length, .bool true] [.box [.str x.name, .int .i64 x.date, .str x.value], .arr n.length 3 (updG (fxG n) (0 + Int.toNat n_3) 0 [.str x.name, .int .i64 x.date, .str x.value])]))) (.leaf (.loop (Prod.fst (lps K37 0)) (Prod.snd (lps K37 0)) [(0, .sl l.length 3 (fxG l)), (2, .fn 38 [] []), (4, .ptr 0 0), (8, .osl 1 3 0 n.length), (10, .int .i64 0), (29, .undef), (30, .undef), (31, .undef), (32, .undef), (33, .undef), (34, .undef), (35, .undef), (36, .undef)] [.box [.str x.name, .int .i64 x.date, .str x.value], .arr n.length 3 (fxG n)]))) (by kernel_rfl) ?_
 simp only [Tree.holds, zd]
 have fin : ∀ (r : List Fx) (b : Bool) (h : Heap) (g : Nat → Nat → AV), r = zw cmpF x l → b = decide ((zw cmpF x l).length ≤ 1000) → h.length = 2 ∨ h.length = 3 → h.getD 1 .dead = .arr r.length 3 g → eqG r.length 3 g (fxG r) → RetR uj 0 Q [.osl 1 3 0 r.length, .bool b] h := by
  intro r b h g hr hb hlen hh hg
  subst hr; subst hb
  refine RetR.outs [1] rfl (by simp; omega) hq (fun _ => ⟨?_, ?_⟩) ?_ ?_ rfl
  ·simp [resV, new2, new1, new0, z5, zK]
  ·simp only [List.mem_cons, List.not_mem_nil, or_false, forall_eq, hh]
   exact Jj hg
  ·simp [resV, exp2, exp1, exp0, z5, ren0, eqA2, eqL1]
  ·simp only [expH, List.map_cons, List.map_nil, hh, expB]
   exact ⟨⟨rfl, rfl, hg⟩, trivial⟩
 refine ⟨l, ⟨by simp [za], by omega⟩, ⟨(), trivial⟩, fun _ _ => ⟨(l, x), ⟨by simp [wm], by show l.length < 2 ^ 40; omega⟩, ⟨_, rfl⟩, ?_⟩⟩
 rintro _ rfl
 obtain ⟨hlt, hfd⟩ := xU (p := fun y => decide (cmpF y x = 0)) Fx.nil l
 refine ⟨fun h => ?_, fun h => ?_⟩
 ·have h := of_decide_eq_true h
  rw [if_pos h] at hfd
  simp only at h hlt ⊢
  have hk := List.find?_some hfd
  have hk : cmpF (l.getD (idxB (fun y => decide (cmpF y x = 0)) l).toNat Fx.nil) x = 0 := of_decide_eq_true hk
  have hsp := yb Q9 (x := x) (z := Fx.nil) hpw (show (idxB (fun y => decide (cmpF y x = 0)) l).toNat < l.length by omega) hk
  refine ⟨⟨h, hlt⟩, fun _ => ?_⟩
  have hlen : (l.set (idxB (fun y => decide (cmpF y x = 0)) l).toNat x).length = l.length := List.length_set
  have := fin _ true _ (updG (fxG l) (0 + (idxB (fun y => decide (cmpF y x = 0)) l).toNat) 0 [.str x.name, .int .i64 x.date, .str x.value]) hsp (by rw [← hsp, hlen]; exact (decide_eq_true hl).symm) (.inl (rfl : ([.box [.str x.name, .int .i64 x.date, .str x.value], .arr l.length 3 (updG (fxG l) (0 + (idxB (fun y => decide (cmpF y x = 0)) l).toNat) 0 [.str x.name, .int .i64 x.date, .str x.value])] : Heap).length = 2)) (by rw [hlen]; rfl) (by rw [hlen, Nat.zero_add]; exact zeb (by omega))
  rw [hlen] at this
  exact this
 ·have h := of_decide_eq_false h
  rw [if_neg h, List.find?_eq_none] at hfd
  have hno : ∀ j, j < l.length → cmpF (l.getD j Fx.nil) x ≠ 0 := fun j hj h0 => by
   exact hfd (l.getD j Fx.nil) (by simp [List.getD, hj]) (decide_eq_true h0)
  refine zc.loop (ι := {i : Nat // i ≤ l.length ∧ ∀ j, j < i → cmpF (l.getD j Fx.nil) x < 0}) (fun i => SPlc l i.1) (fun _ => HPl l x) (fun i => l.length - i.1) ⟨0, Nat.zero_le _, fun j hj => by omega⟩ 0 ?_ ?_ (by kernel_rfl)
  ·exact ⟨by simp [SPlc, fxS, za], by simp [HPl, za], by kernel_rfl, Nat.zero_le _⟩
  ·rintro ⟨i, hil, hib⟩
   refine zc.run hmix Jl [0, 2, 4, 8, 10, 29, 30, 31, 32, 33, 34, 35, 36] 400 (T := .side (decide ((↑i : Int) < l.length) = true → (0 : Int) ≤ i ∧ (↑i : Int) < l.length) (.ex (fun (x_1 : Fx × Fx) => decide ((↑i : Int) < l.length) = true → eqL [AV.agg [AV.str (Fx.name (List.getD l (0 + Int.toNat (↑i : Int)) Fx.nil)), AV.int .i64 (Fx.date (List.getD l (0 + Int.toNat (↑i : Int)) Fx.nil)), AV.str (Fx.value (List.getD l (0 + Int.toNat (↑i : Int)) Fx.nil))], AV.agg [AV.str x.name, AV.int .i64 x.date, AV.str x.value]] [AV.agg [AV.str x_1.1.name, AV.int .i64 x_1.1.date, AV.str x_1.1.value], AV.agg [AV.str x_1.2.name, AV.int .i64 x_1.2.date, AV.str x_1.2.value]] ∧ True) fun n => .all (fun (x : Int) => decide ((↑i : Int) < l.length) = true → x = cmpF n.1 n.2) fun n => .ite (bif decide ((↑i : Int) < l.length) then decide (n < 0) else false) (.side (inR .i64 ((↑i : Int) + (1 : Int))) (.leaf (.back 0 [(0, .sl l.length 3 (fxG l)), (2, .fn 38 [] []), (4, .ptr 0 0), (8, .osl 1 3 0 l.length), (10, .int .i64 ((↑i : Int) + (1 : Int))), (29, .undef), (30, .undef), (31, .undef), (32, .undef), (33, .undef), (34, .undef), (35, .undef), (36, .undef)] [.box [.str x.name, .int .i64 x.date, .str x.value], .arr l.length 3 (fxG l)]))) (.ex (fun (x_1 : List Fx × Fx × Nat) => eqL [AV.osl 0 3 0 l.length, AV.int .i64 i, AV.osl 1 3 0 1] [AV.osl 0 3 0 x_1.1.length, AV.int .i64 (↑(x_1.2.2) : Int), AV.osl 1 3 0 1] ∧ eqH [.arr l.length 3 (fxG l), .arr 1 3 (zj 3 [AV.str x.name, AV.int .i64 x.date, AV.str x.value])] [.arr x_1.1.length 3 (fxG x_1.1), .arr 1 3 (fxG [x_1.2.1])] ∧ 2 = 2 ∧ x_1.2.2 ≤ x_1.1.length ∧ x_1.1.length < 1099511627776) fun n => .all (fun (x : Unit) => True) fun n_1 => .leaf (.ret [.osl 1 3 0 (n.1.length + 1), .bool (decide ((↑l.length : Int) < 1000))] [.box [.str x.name, .int .i64 x.date, .str x.value], .arr (n.1.length + 1) 3 (fxG (List.take (n.2.2) n.1 ++ n.2.1 :: List.drop (n.2.2) n.1)), .dead])))) (by kernel_rfl) ?_
   simp only [Tree.holds, zd, inR, lo, hi, Int.toNat_natCast, Nat.zero_add]
   refine ⟨fun h => by have := of_decide_eq_true h; omega, fun _ => ⟨(l.getD i Fx.nil, x), fun _ => ⟨by simp, trivial⟩, ⟨_, fun _ => rfl⟩, ?_⟩⟩
   intro n hn
   refine ⟨fun h2 => ?_, fun h2 => ?_⟩
   ·rw [Bool.cond_eq_ite] at h2
    split at h2
    ·rename_i g1
     rw [hn g1] at h2
     have g1 := of_decide_eq_true g1
     have h2 := of_decide_eq_true h2
     refine ⟨by omega, fun _ => ?_⟩
     rw [if_pos trivial]
     refine ⟨⟨i + 1, by omega, fun j hj => ?_⟩, by show l.length - (i + 1) < l.length - i; omega, by simp [SPlc, fxS, za], by simp [HPl, za], by kernel_rfl, Nat.zero_le _⟩
     rcases Nat.lt_or_ge j i with h1 | h1
     ·exact hib j h1
     ·have : j = i := by omega
      rw [this]; exact h2
    ·cases h2
   ·have hnot : i < l.length → ¬ cmpF (l.getD i Fx.nil) x < 0 := fun hlt2 => by
     have g1 : decide ((i : Int) < l.length) = true := decide_eq_true (by omega)
     rw [g1, hn g1] at h2
     exact of_decide_eq_false h2
    refine ⟨(l, x, i), ⟨by simp, ⟨⟨rfl, rfl, za _ _ _⟩, ⟨rfl, rfl, fun j o hj ho => ?_⟩, trivial⟩, trivial, hil, by show l.length < 2 ^ 40; omega⟩, ⟨(), trivial⟩, fun _ _ => ?_⟩
    ·have := Fx.xS x hj ho
     simp only [zg, Nat.zero_add] at this
     rw [this]
     have : j = 0 := by omega
     subst this; rfl
    ·have hins := xP (x := x) (z := Fx.nil) hno hib hil hnot
     have hlen : (l.take i ++ x :: l.drop i).length = l.length + 1 := by simp; omega
     have := fin _ (decide ((l.length : Int) < 1000)) [.box [.str x.name, .int .i64 x.date, .str x.value], .arr (l.length + 1) 3 (fxG (l.take i ++ x :: l.drop i)), .dead] (fxG (l.take i ++ x :: l.drop i)) hins (by rw [← hins, hlen]; exact decide_eq_decide.2 (by omega)) (.inr rfl) (by rw [hlen]; rfl) (za _ _ _)
     rw [hlen] at this
     exact this
def ud : Ctr := ctrP true (fun p : List Ch × Ch => [chS p.1, p.2.av, .fn 48 [] []]) (fun p => p.1.length ≤ 1000 ∧ ordB cmpC Ch.nil p.1 = true) (fun p (r : List Ch × Bool) => r = (zw cmpC p.2 p.1, decide ((zw cmpC p.2 p.1).length ≤ 1000))) (fun _ r => (.tup [.osl 0 4 0 r.1.length, .bool r.2], [.arr r.1.length 4 (chG r.1)]))
theorem V5 : zb Tryd.prog 49 ud := by
 refine ze (fn := Tryd.f49) (c := Tryd.f49.body.getD .skip) rfl rfl rfl fun p hp O w0 Q hq => ?_
 obtain ⟨l, x⟩ := p
 obtain ⟨hl, hord⟩ := hp
 replace hq := hq _ rfl
 simp only at hq hl hord
 have hpw := yI UW hord
 refine zc.run hmix Jl [0, 2, 4, 8, 10, 29, 30, 31, 32, 33, 34, 35, 36] 400 (T := .ex (fun (x : List Ch) => eqL [AV.sl l.length 4 (chG l)] [AV.sl x.length 4 (chG x)] ∧ x.length < 1099511627776) fun n => .all (fun (x : Unit) => True) fun n_1 => .ex (fun (x_1 : List Ch × Ch) => eqL [AV.sl n.length 4 (zg (chG n) 0), AV.agg [AV.str x.zo, AV.str x.name, AV.int .i64 x.date, AV.bool x.first], AV.fn 48 [] []] [AV.sl x_1.1.length 4 (chG x_1.1), AV.agg [AV.str x_1.2.zo, AV.str x_1.2.name, AV.int .i64 x_1.2.date, AV.bool x_1.2.first], AV.fn 48 [] []] ∧ x_1.1.length < 1099511627776) fun n_2 => .all (fun (r : Int) => r = idxB (fun (x : Ch) => decide (cmpC x n_2.2 = 0)) n_2.1) fun n_3 => .ite (decide ((0 : Int) ≤ n_3)) (.side ((0 : Int) ≤ n_3 ∧ n_3 < (↑n.length : Int)) (.leaf (.ret [.osl 1 4 0 n.length, .bool true] [.box [.str x.zo, .str x.name, .int .i64 x.date, .bool x.first], .arr n.length 4 (updG (chG n) (0 + Int.toNat n_3) 0 [.str x.zo, .str x.name, .int .i64 x.date, .bool x.first])]))) (.leaf (.loop (Prod.fst (lps K49 0)) (Prod.snd (lps K49 0)) [(0, .sl l.length 4 (chG l)), (2, .fn 48 [] []), (4, .ptr 0 0), (8, .osl 1 4 0 n.length), (10, .int .i64 0), (29, .undef), (30, .undef), (31, .undef), (32, .undef), (33, .undef), (34, .undef), (35, .undef), (36, .undef)] [.box [.str x.zo, .str x.name, .int .i64 x.date, .bool x.first], .arr n.length 4 (chG n)]))) (by kernel_rfl) ?_
 simp only [Tree.holds, zd]
 have fin : ∀ (r : List Ch) (b : Bool) (h : Heap) (g : Nat → Nat → AV), r = zw cmpC x l → b = decide ((zw cmpC x l).length ≤ 1000) → h.length = 2 ∨ h.length = 3 → h.getD 1 .dead = .arr r.length 4 g → eqG r.length 4 g (chG r) → RetR ud 0 Q [.osl 1 4 0 r.length, .bool b] h := by
  intro r b h g hr hb hlen hh hg
  subst hr; subst hb
  refine RetR.outs [1] rfl (by simp; omega) hq (fun _ => ⟨?_, ?_⟩) ?_ ?_ rfl
  ·simp [resV, new2, new1, new0, z5, zK]
  ·simp only [List.mem_cons, List.not_mem_nil, or_false, forall_eq, hh]
   exact QM hg
  ·simp [resV, exp2, exp1, exp0, z5, ren0, eqA2, eqL1]
  ·simp only [expH, List.map_cons, List.map_nil, hh, expB]
   exact ⟨⟨rfl, rfl, hg⟩, trivial⟩
 refine ⟨l, ⟨by simp [za], by omega⟩, ⟨(), trivial⟩, fun _ _ => ⟨(l, x), ⟨by simp [wm], by show l.length < 2 ^ 40; omega⟩, ⟨_, rfl⟩, ?_⟩⟩
 rintro _ rfl
 obtain ⟨hlt, hfd⟩ := xU (p := fun y => decide (cmpC y x = 0)) Ch.nil l
 refine ⟨fun h => ?_, fun h => ?_⟩
 ·have h := of_decide_eq_true h
  rw [if_pos h] at hfd
  simp only at h hlt ⊢
  have hk := List.find?_some hfd
  have hk : cmpC (l.getD (idxB (fun y => decide (cmpC y x = 0)) l).toNat Ch.nil) x = 0 := of_decide_eq_true hk
  have hsp := yb UW (x := x) (z := Ch.nil) hpw (show (idxB (fun y => decide (cmpC y x = 0)) l).toNat < l.length by omega) hk
  refine ⟨⟨h, hlt⟩, fun _ => ?_⟩
  have hlen : (l.set (idxB (fun y => decide (cmpC y x = 0)) l).toNat x).length = l.length := List.length_set
  have := fin _ true _ (updG (chG l) (0 + (idxB (fun y => decide (cmpC y x = 0)) l).toNat) 0 [.str x.zo, .str x.name, .int .i64 x.date, .bool x.first]) hsp (by rw [← hsp, hlen]; exact (decide_eq_true hl).symm) (.inl (rfl : ([.box [.str x.zo, .str x.name, .int .i64 x.date, .bool x.first], .arr l.length 4 (updG (chG l) (0 + (idxB (fun y => decide (cmpC y x = 0)) l).toNat) 0 [.str x.zo, .str x.name, .int .i64 x.date, .bool x.first])] : Heap).length = 2)) (by rw [hlen]; rfl) (by rw [hlen, Nat.zero_add]; exact ze1 (by omega))
  rw [hlen] at this
  exact this
 ·have h := of_decide_eq_false h
  rw [if_neg h, List.find?_eq_none] at hfd
  have hno : ∀ j, j < l.length → cmpC (l.getD j Ch.nil) x ≠ 0 := fun j hj h0 => by
   exact hfd (l.getD j Ch.nil) (by simp [List.getD, hj]) (decide_eq_true h0)
  refine zc.loop (ι := {i : Nat // i ≤ l.length ∧ ∀ j, j < i → cmpC (l.getD j Ch.nil) x < 0}) (fun i => SQl l i.1) (fun _ => HQl l x) (fun i => l.length - i.1) ⟨0, Nat.zero_le _, fun j hj => by omega⟩ 0 ?_ ?_ (by kernel_rfl)
  ·exact ⟨by simp [SQl, chS, za], by simp [HQl, za], by kernel_rfl, Nat.zero_le _⟩
  ·rintro ⟨i, hil, hib⟩
   refine zc.run hmix Jl [0, 2, 4, 8, 10, 29, 30, 31, 32, 33, 34, 35, 36] 400 (T := .side (decide ((↑i : Int) < l.length) = true → (0 : Int) ≤ i ∧ (↑i : Int) < l.length) (.ex (fun (x_1 : Ch × Ch) => decide ((↑i : Int) < l.length) = true → eqL [AV.agg [AV.str (Ch.zo (List.getD l (0 + Int.toNat (↑i : Int)) Ch.nil)), AV.str (Ch.name (List.getD l (0 + Int.toNat (↑i : Int)) Ch.nil)), AV.int .i64 (Ch.date (List.getD l (0 + Int.toNat (↑i : Int)) Ch.nil)), AV.bool (Ch.first (List.getD l (0 + Int.toNat (↑i : Int)) Ch.nil))], AV.agg [AV.str x.zo, AV.str x.name, AV.int .i64 x.date, AV.bool x.first]] [AV.agg [AV.str x_1.1.zo, AV.str x_1.1.name, AV.int .i64 x_1.1.date, AV.bool x_1.1.first], AV.agg [AV.str x_1.2.zo, AV.str x_1.2.name, AV.int .i64 x_1.2.date, AV.bool x_1.2.first]] ∧ True) fun n => .all (fun (x : Int) => decide ((↑i : Int) < l.length) = true → x = cmpC n.1 n.2) fun n => .ite (bif decide ((↑i : Int) < l.length) then decide (n < 0) else false) (.side (inR .i64 ((↑i : Int) + (1 : Int))) (.leaf (.back 0 [(0, .sl l.length 4 (chG l)), (2, .fn 48 [] []), (4, .ptr 0 0), (8, .osl 1 4 0 l.length), (10, .int .i64 ((↑i : Int) + (1 : Int))), (29, .undef), (30, .undef), (31, .undef), (32, .undef), (33, .undef), (34, .undef), (35, .undef), (36, .undef)] [.box [.str x.zo, .str x.name, .int .i64 x.date, .bool x.first], .arr l.length 4 (chG l)]))) (.ex (fun (x_1 : List Ch × Ch × Nat) => eqL [AV.osl 0 4 0 l.length, AV.int .i64 i, AV.osl 1 4 0 1] [AV.osl 0 4 0 x_1.1.length, AV.int .i64 (↑(x_1.2.2) : Int), AV.osl 1 4 0 1] ∧ eqH [.arr l.length 4 (chG l), .arr 1 4 (zj 4 [AV.str x.zo, AV.str x.name, AV.int .i64 x.date, AV.bool x.first])] [.arr x_1.1.length 4 (chG x_1.1), .arr 1 4 (chG [x_1.2.1])] ∧ 2 = 2 ∧ x_1.2.2 ≤ x_1.1.length ∧ x_1.1.length < 1099511627776) fun n => .all (fun (x : Unit) => True) fun n_1 => .leaf (.ret [.osl 1 4 0 (n.1.length + 1), .bool (decide ((↑l.length : Int) < 1000))] [.box [.str x.zo, .str x.name, .int .i64 x.date, .bool x.first], .arr (n.1.length + 1) 4 (chG (List.take (n.2.2) n.1 ++ n.2.1 :: List.drop (n.2.2) n.1)), .dead])))) (by kernel_rfl) ?_
   simp only [Tree.holds, zd, inR, lo, hi, Int.toNat_natCast, Nat.zero_add]
   refine ⟨fun h => by have := of_decide_eq_true h; omega, fun _ => ⟨(l.getD i Ch.nil, x), fun _ => ⟨by simp, trivial⟩, ⟨_, fun _ => rfl⟩, ?_⟩⟩
   intro n hn
   refine ⟨fun h2 => ?_, fun h2 => ?_⟩
   ·rw [Bool.cond_eq_ite] at h2
    split at h2
    ·rename_i g1
     rw [hn g1] at h2
     have g1 := of_decide_eq_true g1
     have h2 := of_decide_eq_true h2
     refine ⟨by omega, fun _ => ?_⟩
     rw [if_pos trivial]
     refine ⟨⟨i + 1, by omega, fun j hj => ?_⟩, by show l.length - (i + 1) < l.length - i; omega, by simp [SQl, chS, za], by simp [HQl, za], by kernel_rfl, Nat.zero_le _⟩
     rcases Nat.lt_or_ge j i with h1 | h1
     ·exact hib j h1
     ·have : j = i := by omega
      rw [this]; exact h2
    ·cases h2
   ·have hnot : i < l.length → ¬ cmpC (l.getD i Ch.nil) x < 0 := fun hlt2 => by
     have g1 : decide ((i : Int) < l.length) = true := decide_eq_true (by omega)
     rw [g1, hn g1] at h2
     exact of_decide_eq_false h2
    refine ⟨(l, x, i), ⟨by simp, ⟨⟨rfl, rfl, za _ _ _⟩, ⟨rfl, rfl, fun j o hj ho => ?_⟩, trivial⟩, trivial, hil, by show l.length < 2 ^ 40; omega⟩, ⟨(), trivial⟩, fun _ _ => ?_⟩
    ·have := Ch.xS x hj ho
     simp only [zg, Nat.zero_add] at this
     rw [this]
     have : j = 0 := by omega
     subst this; rfl
    ·have hins := xP (x := x) (z := Ch.nil) hno hib hil hnot
     have hlen : (l.take i ++ x :: l.drop i).length = l.length + 1 := by simp; omega
     have := fin _ (decide ((l.length : Int) < 1000)) [.box [.str x.zo, .str x.name, .int .i64 x.date, .bool x.first], .arr (l.length + 1) 4 (chG (l.take i ++ x :: l.drop i)), .dead] (chG (l.take i ++ x :: l.drop i)) hins (by rw [← hins, hlen]; exact decide_eq_decide.2 (by omega)) (.inr rfl) (by rw [hlen]; rfl) (za _ _ _)
     rw [hlen] at this
     exact this
noncomputable def GPu : Nat → Option Ctr := fun f => if f = 21 then some (QG) else if f = 25 then some (Wu) else if f = 35 then some (xG) else if f = 36 then some (x2) else if f = 37 then some (uj) else if f = 49 then some (ud) else if f = 50 then some (Qt) else if f = 39 then some (Qu) else none
theorem zdd : ∀ g c, GPu g = some c → zb Tryd.prog g c := okIf Z8 (okIf QN (okIf k9 (okIf kz (okIf WM (okIf V5 (okIf ZT (okIf Z0 (zn))))))))
def Kg : Ctr := ctrP true (fun p : (List Fx × List Ch) × Fx => [envA p.1.1 p.1.2, p.2.av]) (fun p => envP p.1 ∧ ji p.2) (fun p r => r = putF p.1.1 p.1.2 p.2) (fun _ (r : (List Fx × List Ch) × Int) => (.tup [.agg [.osl 0 3 0 r.1.1.length, .osl 1 4 0 r.1.2.length], .int .i64 r.2], [.arr r.1.1.length 3 (fxG r.1.1), .arr r.1.2.length 4 (chG r.1.2)]))
theorem zb0 {ctr : Ctr} {Q : AV × Heap → Prop} (e : Int) (h : Heap) (hq : Q (.tup [.agg [.osl 0 3 0 ([] : List Fx).length, .osl 1 4 0 ([] : List Ch).length], .int .i64 e], [.arr ([] : List Fx).length 3 (fxG []), .arr ([] : List Ch).length 4 (chG [])])) : RetR ctr 0 (upQ Q) [.agg [.nils, .nils], .int .i64 e] h := by
 refine RetR.out0 (r := .tup [.agg [.nils, .nils], .int .i64 e]) (.inr ⟨_, [(3, fxG []), (4, chG [])], ?_, hq⟩) (fun _ => by simp [resV, new2, new1, new0, zK]) (by simp [resV, exp2, exp1, exp0, ren0, eqA2, eqL1])
 simp [upA2, upA1, upA0, upL1, upL0]
theorem Kq : zb Tryd.prog 13 Kg := by
 refine yR (fn := Tryd.f13) (c := Tryd.f13.body.getD .skip) rfl rfl rfl fun p hp O w0 Q hq => ?_
 obtain ⟨⟨f, c⟩, ⟨a, d, v⟩⟩ := p
 obtain ⟨he, hs1, hs2⟩ := hp
 replace hq := hq _ rfl
 simp only at hq he hs1 hs2
 refine zc.run hmix zdd [] 400 (T := .ex (fun (x : List Fx × List Ch) => eqL [AV.agg [AV.sl f.length 3 (fxG f), AV.sl c.length 4 (chG c)]] [AV.agg [AV.sl x.1.length 3 (fxG x.1), AV.sl x.2.length 4 (chG x.2)]] ∧ envP x) fun n => .all (fun (r : Int) => r = errE n.1 n.2) fun n => .ite (!decide (n = 0)) (.leaf (.ret [.agg [.nils, .nils], .int .i64 n] [.box [.sl f.length 3 (fxG f), .sl c.length 4 (chG c)], .box [.str a, .int .i64 d, .str v], .box [.nils, .nils]])) (.ex (fun (x : List UInt8) => eqL [AV.str a] [AV.str x] ∧ x.length < 4611686018427387904) fun n => .all (fun (r : Bool) => r = qK n) fun n => .ex (fun (x : Int) => (!n) = false → eqL [AV.int .i64 d] [AV.int .i64 x] ∧ True) fun n_1 => .all (fun (x : Bool) => (!n) = false → x = dayB n_1) fun n_2 => .ite (bif !n then true else !n_2) (.leaf (.ret [.agg [.nils, .nils], .int .i64 2] [.box [.sl f.length 3 (fxG f), .sl c.length 4 (chG c)], .box [.str a, .int .i64 d, .str v], .box [.nils, .nils]])) (.ex (fun (x : List UInt8) => eqL [AV.str v] [AV.str x] ∧ x.length < 4611686018427387904) fun n => .all (fun (r : Int) => r = errR n) fun n => .ite (!decide (n = 0)) (.leaf (.ret [.agg [.nils, .nils], .int .i64 n] [.box [.sl f.length 3 (fxG f), .sl c.length 4 (chG c)], .box [.str a, .int .i64 d, .str v], .box [.nils, .nils]])) (.ex (fun (x : List Fx × Fx) => eqL [AV.sl f.length 3 (fxG f), AV.agg [AV.str a, AV.int .i64 d, AV.str v], AV.fn 38 [] []] [AV.sl x.1.length 3 (fxG x.1), AV.agg [AV.str x.2.name, AV.int .i64 x.2.date, AV.str x.2.value], AV.fn 38 [] []] ∧ x.1.length ≤ 1000 ∧ ordB cmpF Fx.nil x.1 = true) fun n => .all (fun (r : List Fx × Bool) => r = (zw cmpF n.2 n.1, decide (List.length (zw cmpF n.2 n.1) ≤ 1000))) fun n => .ite (!Prod.snd n) (.leaf (.ret [.agg [.nils, .nils], .int .i64 22] [.box [.sl f.length 3 (fxG f), .sl c.length 4 (chG c)], .box [.str a, .int .i64 d, .str v], .box [.nils, .nils], .arr n.1.length 3 (fxG n.1)])) (.ex (fun (x : List Ch) => eqL [AV.sl c.length 4 (chG c)] [AV.sl x.length 4 (chG x)] ∧ x.length < 1099511627776) fun n_3 => .all (fun (x : Unit) => True) fun n_4 => .leaf (.ret [.agg [.osl 3 3 0 n.1.length, .osl 4 4 0 n_3.length], .int .i64 0] [.box [.sl f.length 3 (fxG f), .sl c.length 4 (chG c)], .box [.str a, .int .i64 d, .str v], .box [.osl 3 3 0 n.1.length, .osl 4 4 0 n_3.length], .arr n.1.length 3 (fxG n.1), .arr n_3.length 4 (chG n_3)])))))) (by kernel_rfl) ?_
 simp only [Tree.holds, zd]
 have bad : ∀ (e : Int) (h : Heap), putF f c ⟨a, d, v⟩ = (([], []), e) → RetR Kg 0 (upQ Q) [.agg [.nils, .nils], .int .i64 e] h := fun e h hr => by
  rw [hr] at hq
  exact zb0 e h hq
 refine ⟨(f, c), ⟨by simp [za], he⟩, ⟨_, rfl⟩, ?_⟩
 rintro _ rfl
 refine ⟨fun h => ?_, fun h => ?_⟩
 ·have h : errE f c ≠ 0 := by simpa using h
  exact bad _ _ (by simp [putF, h])
 ·have h : errE f c = 0 := by simpa using h
  refine ⟨a, ⟨by simp, by omega⟩, ⟨_, rfl⟩, ?_⟩
  rintro _ rfl
  refine ⟨d, fun _ => ⟨by simp, trivial⟩, ⟨_, fun _ => rfl⟩, ?_⟩
  intro b1 g1
  have key : (bif !qK a then true else !b1) = !(qK a && dayB d) := by
   cases hn : qK a with
   | false => rfl
   | true => rw [g1 (by rw [hn]; rfl)]; rfl
  rw [key]
  refine ⟨fun h2 => ?_, fun h2 => ?_⟩
  ·exact bad _ _ (by simp only [putF]; rw [if_neg (by simp [h]), if_pos (by simpa only [Bool.not_eq_true'] using h2)])
  ·have h2 : ¬ (qK a && dayB d) = false := by simpa using h2
   refine ⟨v, ⟨by simp, by omega⟩, ⟨_, rfl⟩, ?_⟩
   rintro _ rfl
   refine ⟨fun h3 => ?_, fun h3 => ?_⟩
   ·have h3 : errR v ≠ 0 := by simpa using h3
    exact bad _ _ (by simp only [putF]; rw [if_neg (by simp [h]), if_neg h2, if_pos h3])
   ·have h3 : ¬ errR v ≠ 0 := by simpa using h3
    obtain ⟨hb, _, _, ho, _⟩ := Zd.1 h
    refine ⟨(f, ⟨a, d, v⟩), ⟨by simp [za], by show f.length ≤ 1000; omega, ho⟩, ⟨_, rfl⟩, ?_⟩
    rintro _ rfl
    refine ⟨fun h4 => ?_, fun h4 => ?_⟩
    ·have h4 : 1000 < (zw cmpF ⟨a, d, v⟩ f).length := by simpa using h4
     exact bad _ _ (by simp only [putF]; rw [if_neg (by simp [h]), if_neg h2, if_neg h3, if_pos h4])
    ·have h4 : ¬ 1000 < (zw cmpF ⟨a, d, v⟩ f).length := by simpa using h4
     have hr : putF f c ⟨a, d, v⟩ = ((zw cmpF ⟨a, d, v⟩ f, c), 0) := by simp only [putF]; rw [if_neg (by simp [h]), if_neg h2, if_neg h3, if_neg h4]
     rw [hr] at hq
     refine ⟨c, ⟨by simp [za], by omega⟩, ⟨(), trivial⟩, fun _ _ => ?_⟩
     refine RetR.outs [3, 4] rfl rfl (.inl hq) (fun _ => ⟨?_, ?_⟩) ?_ ?_ rfl
     ·simp [resV, new2, new1, new0, z5, zK]
     ·simp only [List.mem_cons, List.not_mem_nil, or_false, forall_eq_or_imp, forall_eq]
      exact ⟨Jj (za _ _ _), QM (za _ _ _)⟩
     ·simp [resV, exp2, exp1, exp0, z5, ren0, eqA2, eqL1]
     ·exact ⟨⟨rfl, rfl, za _ _ _⟩, ⟨rfl, rfl, za _ _ _⟩, trivial⟩
end Go.Proofs.Tryd
end

/- The chapter's example. -/
section
set_option maxRecDepth 100000
open Go Go.Sx Go.Proofs Go.Nov
namespace Go.Proofs.Tryd
attribute [local simp] eqKV eqA eqA0 eqH eqB eqL eqL0
def zcd : Ctr := ctrP false (fun r : List UInt8 => [.str r]) (fun r => True) (fun _ (_ : Unit) => True) (fun r _ => ((Ex.mk 1 r [] 0 []).exA, []))
def zd6 : Ctr := ctrP false (fun r : List UInt8 => [.str r]) (fun r => True) (fun _ (_ : Unit) => True) (fun r _ => ((Ex.mk 3 [] r 0 []).exA, []))
structure PX where
 k : Int
 x : Ex
 y : Ex
def PX.mk2 (p : PX) : Ex := .mk p.k [] [] 0 [p.x, p.y]
def prXC : Ctr := ctrP false (fun p : PX => [.int .u8 p.k, p.x.exA, p.y.exA]) (fun _ => True) (fun _ (_ : Unit) => True) (fun p _ => (p.mk2.exA, []))
noncomputable def GN0 : Nat → Option Ctr := fun f => none
theorem Vn : ∀ g c, GN0 g = some c → zb Tryd.prog g c := zn
theorem zba : zb Tryd.prog 26 zcd := by
 refine ze (fn := Tryd.f26) (c := Tryd.f26.body.getD .skip) rfl rfl rfl fun r _ O w0 Q hq => ?_
 replace hq := hq () trivial
 refine zc.run hmix Vn [] 400 (T := .leaf (.ret [.agg [.int .u8 1, .str r, .str (Array.toList #[]), .int .i64 0, .nils]] [.box [.int .u8 1, .str r, .str (Array.toList #[]), .int .i64 0, .nils]])) (by kernel_rfl) ?_
 simp only [Tree.holds, zd]
 exact RetR.out0 hq (fun h => by cases h) ⟨⟨rfl, rfl⟩, rfl, rfl, ⟨rfl, rfl⟩, rfl, trivial⟩
theorem zar : zb Tryd.prog 28 zd6 := by
 refine ze (fn := Tryd.f28) (c := Tryd.f28.body.getD .skip) rfl rfl rfl fun r _ O w0 Q hq => ?_
 replace hq := hq () trivial
 refine zc.run hmix Vn [] 400 (T := .leaf (.ret [.agg [.int .u8 3, .str (Array.toList #[]), .str r, .int .i64 0, .nils]] [.box [.int .u8 3, .str (Array.toList #[]), .str r, .int .i64 0, .nils]])) (by kernel_rfl) ?_
 simp only [Tree.holds, zd]
 exact RetR.out0 hq (fun h => by cases h) ⟨⟨rfl, rfl⟩, rfl, rfl, ⟨rfl, rfl⟩, rfl, trivial⟩
theorem zbq (x y : Ex) : LeA (.sl 2 5 (zg (zj 5 [.int .u8 x.kind, .str x.rat, .str x.name, .int .i64 x.date, .sl x.sub.length 5 (Ex.exG x.sub), .int .u8 y.kind, .str y.rat, .str y.name, .int .i64 y.date, .sl y.sub.length 5 (Ex.exG y.sub)]) 0)) (Ex.exS [x, y]) := by
 refine LeA.sl rfl fun j o hj ho => ?_
 have d : ∀ z : Ex, LeA (.sl z.sub.length 5 (Ex.exG z.sub)) (.sl z.sub.length 5 z.deep) := fun z => LeA.sl rfl fun j o hj ho => by rw [Ex.qU z j o hj ho]; exact LeA.refl _
 match j, hj, o, ho with
 | 0, _, 0, _ => exact LeA.refl _
 | 0, _, 1, _ => exact LeA.refl _
 | 0, _, 2, _ => exact LeA.refl _
 | 0, _, 3, _ => exact LeA.refl _
 | 0, _, 4, _ => exact d x
 | 1, _, 0, _ => exact LeA.refl _
 | 1, _, 1, _ => exact LeA.refl _
 | 1, _, 2, _ => exact LeA.refl _
 | 1, _, 3, _ => exact LeA.refl _
 | 1, _, 4, _ => exact d y
theorem zdg : zb Tryd.prog 19 prXC := by
 refine ze (fn := Tryd.f19) (c := Tryd.f19.body.getD .skip) rfl rfl rfl fun p _ O w0 Q hq => ?_
 obtain ⟨k, x, y⟩ := p
 replace hq := hq () trivial
 refine zc.run hmix Vn [] 400 (T := .leaf (.ret [.agg [.int .u8 k, .str (Array.toList #[]), .str (Array.toList #[]), .int .i64 0, .osl 3 5 0 2]] [.box [.int .u8 x.kind, .str x.rat, .str x.name, .int .i64 x.date, .sl x.sub.length 5 (Ex.exG x.sub)], .box [.int .u8 y.kind, .str y.rat, .str y.name, .int .i64 y.date, .sl y.sub.length 5 (Ex.exG y.sub)], .box [.int .u8 k, .str (Array.toList #[]), .str (Array.toList #[]), .int .i64 0, .osl 3 5 0 2], .arr 2 5 (zj 5 [.int .u8 x.kind, .str x.rat, .str x.name, .int .i64 x.date, .sl x.sub.length 5 (Ex.exG x.sub), .int .u8 y.kind, .str y.rat, .str y.name, .int .i64 y.date, .sl y.sub.length 5 (Ex.exG y.sub)])])) (by kernel_rfl) ?_
 simp only [Tree.holds, zd]
 refine RetR.le0 hq (fun h => by cases h) ?_
 exact LeA.agg ⟨LeA.refl _, LeA.refl _, LeA.refl _, LeA.refl _, zbq x y, trivial⟩
noncomputable def GAl : Nat → Option Ctr := fun f => if f = 26 then some (zcd) else if f = 28 then some (zd6) else if f = 19 then some (prXC) else if f = 13 then some (Kg) else if f = 11 then some (YH) else none
theorem ze7 : ∀ g c, GAl g = some c → zb Tryd.prog g c := okIf zba (okIf zar (okIf zdg (okIf Kq (okIf JK (zn)))))
def spot : Fx := ⟨[115, 112, 111, 116], 5, [55, 47, 50]⟩
def vH : Ex := .mk 7 [] [] 0 [.mk 5 [] [] 0 [.mk 3 [] [115, 112, 111, 116] 0 [], .mk 1 [51] [] 0 []], .mk 1 [48] [] 0 []]
theorem KT : putF [] [] spot = (([spot], []), 0) := by kernel_rfl
theorem zbp : zZ vH 5 [spot] [] = ([49, 47, 50], 0) := by kernel_rfl
theorem zbu : zZ vH 6 [spot] [] = ([], 30) := by kernel_rfl
def Ut : Ctr := ctrP true (fun _ : Unit => []) (fun _ => True) (fun _ r => r = true) (fun _ (r : Bool) => (.bool r, []))
theorem U2 : zb Tryd.prog 7 Ut := by
 refine ze (fn := Tryd.f7) (c := Tryd.f7.body.getD .skip) rfl rfl rfl fun _ _ O w0 Q hq => ?_
 replace hq := hq true rfl
 refine zc.run hmix ze7 [] 400 (T := .ex (fun (x : (List Fx × List Ch) × Fx) => eqL [AV.agg [AV.nils, AV.nils], AV.agg [AV.str (Array.toList #[(115 : UInt8), (112 : UInt8), (111 : UInt8), (116 : UInt8)]), AV.int .i64 5, AV.str (Array.toList #[(55 : UInt8), (47 : UInt8), (50 : UInt8)])]] [AV.agg [AV.sl (List.length (x.1.1)) 3 (fxG (x.1.1)), AV.sl x.1.2.length 4 (chG x.1.2)], AV.agg [AV.str x.2.name, AV.int .i64 x.2.date, AV.str x.2.value]] ∧ envP x.1 ∧ ji x.2) fun n => .all (fun (r : (List Fx × List Ch) × Int) => r = putF (n.1.1) n.1.2 n.2) fun n => .ex (fun (x : List UInt8) => eqL [AV.str (Array.toList #[(115 : UInt8), (112 : UInt8), (111 : UInt8), (116 : UInt8)])] [AV.str x] ∧ True) fun n_1 => .all (fun (x : Unit) => True) fun n_2 => .ex (fun (x : List UInt8) => eqL [AV.str (Array.toList #[(51 : UInt8)])] [AV.str x] ∧ True) fun n_3 => .all (fun (x : Unit) => True) fun n_4 => .ex (fun (x : PX) => eqL [AV.int .u8 5, AV.agg [AV.int .u8 (Ex.kind (Ex.mk (3 : Int) [] n_1 (0 : Int) [])), AV.str (Ex.rat (Ex.mk (3 : Int) [] n_1 (0 : Int) [])), AV.str (Ex.name (Ex.mk (3 : Int) [] n_1 (0 : Int) [])), AV.int .i64 (Ex.date (Ex.mk (3 : Int) [] n_1 (0 : Int) [])), AV.sl (List.length (Ex.sub (Ex.mk (3 : Int) [] n_1 (0 : Int) []))) 5 (Ex.exG (Ex.sub (Ex.mk (3 : Int) [] n_1 (0 : Int) [])))], AV.agg [AV.int .u8 (Ex.kind (Ex.mk (1 : Int) n_3 [] (0 : Int) [])), AV.str (Ex.rat (Ex.mk (1 : Int) n_3 [] (0 : Int) [])), AV.str (Ex.name (Ex.mk (1 : Int) n_3 [] (0 : Int) [])), AV.int .i64 (Ex.date (Ex.mk (1 : Int) n_3 [] (0 : Int) [])), AV.sl (List.length (Ex.sub (Ex.mk (1 : Int) n_3 [] (0 : Int) []))) 5 (Ex.exG (Ex.sub (Ex.mk (1 : Int) n_3 [] (0 : Int) [])))]] [AV.int .u8 (PX.k x), AV.agg [AV.int .u8 (Ex.kind (PX.x x)), AV.str (Ex.rat (PX.x x)), AV.str (Ex.name (PX.x x)), AV.int .i64 (Ex.date (PX.x x)), AV.sl (List.length (Ex.sub (PX.x x))) 5 (Ex.exG (Ex.sub (PX.x x)))], AV.agg [AV.int .u8 (Ex.kind (PX.y x)), AV.str (Ex.rat (PX.y x)), AV.str (Ex.name (PX.y x)), AV.int .i64 (Ex.date (PX.y x)), AV.sl (List.length (Ex.sub (PX.y x))) 5 (Ex.exG (Ex.sub (PX.y x)))]] ∧ True) fun n_5 => .all (fun (x : Unit) => True) fun n_6 => .ex (fun (x : List UInt8) => eqL [AV.str (Array.toList #[(48 : UInt8)])] [AV.str x] ∧ True) fun n_7 => .all (fun (x : Unit) => True) fun n_8 => .ex (fun (x : PX) => eqL [AV.int .u8 7, AV.agg [AV.int .u8 (Ex.kind (PX.mk2 n_5)), AV.str (Ex.rat (PX.mk2 n_5)), AV.str (Ex.name (PX.mk2 n_5)), AV.int .i64 (Ex.date (PX.mk2 n_5)), AV.sl (List.length (Ex.sub (PX.mk2 n_5))) 5 (Ex.exG (Ex.sub (PX.mk2 n_5)))], AV.agg [AV.int .u8 (Ex.kind (Ex.mk (1 : Int) n_7 [] (0 : Int) [])), AV.str (Ex.rat (Ex.mk (1 : Int) n_7 [] (0 : Int) [])), AV.str (Ex.name (Ex.mk (1 : Int) n_7 [] (0 : Int) [])), AV.int .i64 (Ex.date (Ex.mk (1 : Int) n_7 [] (0 : Int) [])), AV.sl (List.length (Ex.sub (Ex.mk (1 : Int) n_7 [] (0 : Int) []))) 5 (Ex.exG (Ex.sub (Ex.mk (1 : Int) n_7 [] (0 : Int) [])))]] [AV.int .u8 (PX.k x), AV.agg [AV.int .u8 (Ex.kind (PX.x x)), AV.str (Ex.rat (PX.x x)), AV.str (Ex.name (PX.x x)), AV.int .i64 (Ex.date (PX.x x)), AV.sl (List.length (Ex.sub (PX.x x))) 5 (Ex.exG (Ex.sub (PX.x x)))], AV.agg [AV.int .u8 (Ex.kind (PX.y x)), AV.str (Ex.rat (PX.y x)), AV.str (Ex.name (PX.y x)), AV.int .i64 (Ex.date (PX.y x)), AV.sl (List.length (Ex.sub (PX.y x))) 5 (Ex.exG (Ex.sub (PX.y x)))]] ∧ True) fun n_9 => .all (fun (x : Unit) => True) fun n_10 => .ex (fun (x : VI) => eqL [AV.agg [AV.int .u8 (Ex.kind (PX.mk2 n_9)), AV.str (Ex.rat (PX.mk2 n_9)), AV.str (Ex.name (PX.mk2 n_9)), AV.int .i64 (Ex.date (PX.mk2 n_9)), AV.sl (List.length (Ex.sub (PX.mk2 n_9))) 5 (Ex.exG (Ex.sub (PX.mk2 n_9)))], AV.int .i64 5, AV.agg [AV.sl (List.length (n.1.1)) 3 (zg (fxG (n.1.1)) 0), AV.sl n.1.2.length 4 (zg (chG n.1.2) 0)]] [AV.agg [AV.int .u8 x.x.kind, AV.str x.x.rat, AV.str x.x.name, AV.int .i64 x.x.date, AV.sl x.x.sub.length 5 (Ex.exG x.x.sub)], AV.int .i64 x.day, AV.agg [AV.sl x.f.length 3 (fxG x.f), AV.sl x.c.length 4 (chG x.c)]] ∧ VI.ok x) fun n_11 => .all (fun (r : List UInt8 × Int) => r = zZ n_11.x n_11.day n_11.f n_11.c) fun n_12 => .ex (fun (x : VI) => eqL [AV.agg [AV.int .u8 (Ex.kind (PX.mk2 n_9)), AV.str (Ex.rat (PX.mk2 n_9)), AV.str (Ex.name (PX.mk2 n_9)), AV.int .i64 (Ex.date (PX.mk2 n_9)), AV.sl (List.length (Ex.sub (PX.mk2 n_9))) 5 (Ex.exG (Ex.sub (PX.mk2 n_9)))], AV.int .i64 6, AV.agg [AV.sl (List.length (n.1.1)) 3 (zg (fxG (n.1.1)) 0), AV.sl n.1.2.length 4 (zg (chG n.1.2) 0)]] [AV.agg [AV.int .u8 x.x.kind, AV.str x.x.rat, AV.str x.x.name, AV.int .i64 x.x.date, AV.sl x.x.sub.length 5 (Ex.exG x.x.sub)], AV.int .i64 x.day, AV.agg [AV.sl x.f.length 3 (fxG x.f), AV.sl x.c.length 4 (chG x.c)]] ∧ VI.ok x) fun n_13 => .all (fun (r : List UInt8 × Int) => r = zZ n_13.x n_13.day n_13.f n_13.c) fun n_14 => .leaf (.ret [.bool (bif bif bif bif decide (n.2 = 0) then decide (n_12.2 = 0) else false then decide (n_12.1 = Array.toList #[(49 : UInt8), (47 : UInt8), (50 : UInt8)]) else false then decide (n_14.2 = 30) else false then decide (n_14.1 = Array.toList #[]) else false)] [.arr (List.length (n.1.1)) 3 (fxG (n.1.1)), .arr n.1.2.length 4 (chG n.1.2), .box [.osl 0 3 0 (List.length (n.1.1)), .osl 1 4 0 n.1.2.length], .box [.int .u8 (Ex.kind (PX.mk2 n_9)), .str (Ex.rat (PX.mk2 n_9)), .str (Ex.name (PX.mk2 n_9)), .int .i64 (Ex.date (PX.mk2 n_9)), .sl (List.length (Ex.sub (PX.mk2 n_9))) 5 (Ex.exG (Ex.sub (PX.mk2 n_9)))]])) (by kernel_rfl) ?_
 simp only [Tree.holds, zd]
 refine ⟨(([], []), spot), ⟨⟨⟨rfl, rfl, trivial⟩, ⟨rfl, ⟨rfl, rfl⟩, rfl, trivial⟩, trivial⟩, ⟨by decide, by decide, fun j hj => absurd hj (Nat.not_lt_zero j), fun j hj => absurd hj (Nat.not_lt_zero j)⟩, by decide, by decide⟩, ⟨_, rfl⟩, ?_⟩
 intro r hr
 replace hr := Eq.trans hr KT
 subst hr
 refine ⟨[115, 112, 111, 116], ⟨⟨rfl, trivial⟩, trivial⟩, ⟨(), trivial⟩, fun _ _ => ?_⟩
 refine ⟨[51], ⟨⟨rfl, trivial⟩, trivial⟩, ⟨(), trivial⟩, fun _ _ => ?_⟩
 refine ⟨⟨5, .mk 3 [] [115, 112, 111, 116] 0 [], .mk 1 [51] [] 0 []⟩, ⟨⟨⟨rfl, rfl⟩, ⟨⟨rfl, rfl⟩, rfl, rfl, ⟨rfl, rfl⟩, ⟨rfl, rfl, za _ _ _⟩, trivial⟩, ⟨⟨rfl, rfl⟩, rfl, rfl, ⟨rfl, rfl⟩, ⟨rfl, rfl, za _ _ _⟩, trivial⟩, trivial⟩, trivial⟩, ⟨(), trivial⟩, fun _ _ => ?_⟩
 refine ⟨[48], ⟨⟨rfl, trivial⟩, trivial⟩, ⟨(), trivial⟩, fun _ _ => ?_⟩
 refine ⟨⟨7, .mk 5 [] [] 0 [.mk 3 [] [115, 112, 111, 116] 0 [], .mk 1 [51] [] 0 []], .mk 1 [48] [] 0 []⟩, ⟨⟨⟨rfl, rfl⟩, ⟨⟨rfl, rfl⟩, rfl, rfl, ⟨rfl, rfl⟩, ⟨rfl, rfl, za _ _ _⟩, trivial⟩, ⟨⟨rfl, rfl⟩, rfl, rfl, ⟨rfl, rfl⟩, ⟨rfl, rfl, za _ _ _⟩, trivial⟩, trivial⟩, trivial⟩, ⟨(), trivial⟩, fun _ _ => ?_⟩
 have hk : ∀ d, VI.ok ⟨vH, d, [spot], []⟩ := fun d => ⟨by show vH.size < _; decide +kernel, by show vH.zx < _; decide +kernel, by show [spot].length < _; decide, by show ([] : List Ch).length < _; decide, fun j hj => by have : j = 0 := Nat.lt_one_iff.1 hj; subst this; exact ⟨by show spot.name.length < _; decide, by show spot.value.length < _; decide⟩, fun j hj => absurd hj (Nat.not_lt_zero j)⟩
 have he : ∀ d, eqL [vH.exA, .int .i64 d, .agg [.sl 1 3 (zg (fxG [spot]) 0), .sl 0 4 (zg (chG []) 0)]] [vH.exA, .int .i64 d, envA [spot] []] := fun d => ⟨⟨⟨rfl, rfl⟩, rfl, rfl, ⟨rfl, rfl⟩, ⟨rfl, rfl, za _ _ _⟩, trivial⟩, ⟨rfl, rfl⟩, ⟨⟨rfl, rfl, wm _ _ _⟩, ⟨rfl, rfl, wm _ _ _⟩, trivial⟩, trivial⟩
 refine ⟨⟨vH, 5, [spot], []⟩, ⟨he 5, hk 5⟩, ⟨_, rfl⟩, ?_⟩
 intro r hr
 replace hr := Eq.trans hr zbp
 subst hr
 refine ⟨⟨vH, 6, [spot], []⟩, ⟨he 6, hk 6⟩, ⟨_, rfl⟩, ?_⟩
 intro r hr
 replace hr := Eq.trans hr zbu
 subst hr
 exact RetR.scal hq rfl (by simp [resV])
end Go.Proofs.Tryd
end

/- The law: what is known. -/
section
set_option maxRecDepth 100000
open Go Go.Sx Go.Proofs Go.Nov
namespace Go.Proofs.Tryd
attribute [local simp] eqKV eqA eqA0 eqH eqB eqL eqL0
theorem wS {f : List Fx} {c : List Ch} {x : Fx} : (putF f c x).1.1.length ≤ 1000 ∧ (putF f c x).1.2.length ≤ 1000 := by
 unfold putF
 by_cases h0 : errE f c ≠ 0
 ·rw [if_pos h0]; simp
 ·rw [if_neg h0]
  have h := Zd.1 (Classical.not_not.1 h0)
  split
  ·simp
  ·split
   ·simp
   ·split
    ·simp
    ·simp only; omega
end Go.Proofs.Tryd
end

/- Two puts. -/
section
namespace Go.Nov
end Go.Nov
end

/- The law of ObservablePuts holds of the code. -/
section
set_option maxRecDepth 100000
open Go Go.Sx Go.Proofs Go.Nov
namespace Go.Proofs.Tryd
attribute [local simp] eqKV eqA eqA0 eqH eqB eqL eqL0
theorem za3 {f : List Fx} {c : List Ch} (h1 : f.length < 2 ^ 40) (h2 : c.length < 2 ^ 40) (h3 : ∀ x ∈ f, ji x) (h4 : ∀ x ∈ c, vG x) : envP (f, c) := by
 refine ⟨h1, h2, fun j hj => h3 _ ?_, fun j hj => h4 _ ?_⟩
 ·have : j < f.length := hj
  simp [List.getD, this]
 ·have : j < c.length := hj
  simp [List.getD, this]
theorem Ye {f : List Fx} {c : List Ch} (h : envP (f, c)) : (∀ x ∈ f, ji x) ∧ ∀ x ∈ c, vG x := by
 refine ⟨fun x hx => ?_, fun x hx => ?_⟩
 ·obtain ⟨j, hj, rfl⟩ := List.mem_iff_getElem.1 hx
  have := h.2.2.1 j hj
  simpa [List.getD, hj] using this
 ·obtain ⟨j, hj, rfl⟩ := List.mem_iff_getElem.1 hx
  have := h.2.2.2 j hj
  simpa [List.getD, hj] using this
theorem JW {f : List Fx} {c : List Ch} {x : Fx} (h : envP (f, c)) (hx : ji x) (hp : (putF f c x).2 = 0) : envP (putF f c x).1 := by
 obtain ⟨a1, a2, a3, a4⟩ := K4 hp
 rw [a4]
 obtain ⟨m1, m2⟩ := Ye h
 refine za3 (Nat.lt_of_le_of_lt a3 (by decide)) h.2.1 (fun y hy => ?_) m2
 rcases kq hy with rfl | g
 ·exact hx
 ·exact m1 _ g
end Go.Proofs.Tryd
end

/- Arguments that say no less than a contract asks. -/
section
namespace Go.Sx
variable [Stat]
section
variable {P : Program}
theorem Qg (a : AV) : eqA0 a a := by
 cases a <;> simp [eqA0]
 exact fun _ _ _ _ => rfl
theorem xR : ∀ l : List AV, eqL0 l l
 | [] => trivial
 | a :: l => ⟨Qg a, xR l⟩
theorem Yq (a : AV) : eqA a a := by
 cases a with
 | agg l => exact xR l
 | tup l => exact xR l
 | _ => unfold eqA; exact Qg _
theorem uH : ∀ l : List AV, eqL l l
 | [] => trivial
 | a :: l => by
  unfold eqL
  split
  ·rename_i h1 h2; cases h1
  ·rename_i h1 h2; cases h1; cases h2; exact uH l
  ·rename_i h1 h2; cases h1; cases h2; exact ⟨Yq _, uH l⟩
  ·rename_i hx; exact (hx _ _ _ _ rfl rfl).elim
def ctrL {X R : Type} (fresh : Bool) (inp : X → List AV) (pre : X → Prop) (post : X → R → Prop) (out : X → R → AV × Heap) : Ctr where
 fresh := fresh
 spec args hc := match hc with
  | [] => .ex (fun x => LeL args (inp x) ∧ pre x) fun x => .all (post x) fun r => .leaf (out x r)
  | _ => .fail
theorem zas {X R : Type} {fresh : Bool} {inp : X → List AV} {pre : X → Prop} {post : X → R → Prop} {out : X → R → AV × Heap} {g : Nat} (h : zb P g (ctrP fresh inp pre post out)) : zb P g (ctrL fresh inp pre post out) := by
 intro args hc Q hq hf
 cases hc with
 | cons b l => exact hq.elim
 | nil =>
  obtain ⟨x, ⟨hle, hp⟩, hr⟩ := hq
  have k : qx P g (ctrP fresh inp pre post out) (inp x) [] Q := h (inp x) [] Q ⟨x, ⟨uH _, hp⟩, hr⟩ hf
  exact fun O w σ vals hg hh hv => k O w σ vals hg hh (hle.rep hv)
end
end Go.Sx
end

/- The law of ObservableLocal holds of the code. -/
section
set_option maxRecDepth 100000
open Go Go.Sx Go.Proofs Go.Nov
namespace Go.Proofs.Tryd
attribute [local simp] eqKV eqA eqA0 eqH eqB eqL eqL0
noncomputable def K3 : List Go.Sx.Item := [.code (Tryd.f3.body.getD .skip)]
noncomputable def U9 : Ctr := ctrL true (fun k : VI => [k.x.exA, .int .i64 k.day, envA k.f k.c]) VI.ok (fun k r => r = zZ k.x k.day k.f k.c) (fun _ (r : List UInt8 × Int) => (.tup [.str r.1, .int .i64 r.2], []))
theorem Xv : zb Tryd.prog 11 U9 := zas JK
def lawO : Ctr := ctrP true (fun p : Ex × Int × (List Fx × List Ch) × Fx => [p.1.exA, .int .i64 p.2.1, envA p.2.2.1.1 p.2.2.1.2, p.2.2.2.av]) (fun p => p.1.thin ∧ inR .i64 p.2.1 ∧ zcr p.2.2.1 ∧ JL p.2.2.2) (fun _ r => r = true) (fun _ (r : Bool) => (.bool r, []))
noncomputable def GLl : Nat → Option Ctr := fun f => if f = 8 then some (YD) else if f = 9 then some (V4) else if f = 11 then some (U9) else if f = 7 then some (Ut) else if f = 10 then some ((zcy 1)) else if f = 12 then some (K7) else if f = 14 then some (K8) else if f = 13 then some (Kg) else none
theorem zec : ∀ g c, GLl g = some c → zb Tryd.prog g c := okIf KM (okIf XX (okIf Xv (okIf U2 (okIf zei (okIf zbe (okIf zam (okIf Kq (zn))))))))
theorem YI (x : Ex) (day : Int) (f : List Fx) (c : List Ch) (y : Fx) : runL Tryd.prog GLl 0 (Tryd.f3) [] 400 (K3) (entry Tryd.f3 [x.exA, .int .i64 day, envA f c, y.av]) = .ex (fun (x : Unit) => eqL [] [] ∧ True) fun n => .all (fun (r : Bool) => r = true) fun n => .ex (fun (x_1 : Ex) => eqL [AV.agg [AV.int .u8 x.kind, AV.str x.rat, AV.str x.name, AV.int .i64 x.date, AV.sl x.sub.length 5 (Ex.exG x.sub)]] [AV.agg [AV.int .u8 x_1.kind, AV.str x_1.rat, AV.str x_1.name, AV.int .i64 x_1.date, AV.sl x_1.sub.length 5 (Ex.exG x_1.sub)]] ∧ Ex.thin x_1) fun n_1 => .all (fun (r : Bool) => r = false → Ex.size n_1 ≤ 600 ∧ Ex.zx n_1 ≤ 3000) fun n_2 => .ex (fun (x : List Fx × List Ch) => n_2 = false → eqL [AV.agg [AV.sl f.length 3 (fxG f), AV.sl c.length 4 (chG c)]] [AV.agg [AV.sl x.1.length 3 (fxG x.1), AV.sl x.2.length 4 (chG x.2)]] ∧ x.1.length < 1152921504606846976 ∧ x.2.length < 1152921504606846976 ∧ (∀ (j : Nat), j < x.1.length → JL (List.getD x.1 j Fx.nil)) ∧ ∀ (j : Nat), j < x.2.length → VQ (List.getD x.2 j Ch.nil)) fun n_3 => .all (fun (x : Bool) => n_2 = false → x = false → fitP n_3) fun n_4 => .ex (fun (x_1 : Ex) => (bif bif bif n_2 then true else n_4 then true else decide ((1000 : Int) < y.name.length) then true else decide ((3000 : Int) < y.value.length)) = false → eqL [AV.agg [AV.int .u8 x.kind, AV.str x.rat, AV.str x.name, AV.int .i64 x.date, AV.sl x.sub.length 5 (Ex.exG x.sub)]] [AV.agg [AV.int .u8 x_1.kind, AV.str x_1.rat, AV.str x_1.name, AV.int .i64 x_1.date, AV.sl x_1.sub.length 5 (Ex.exG x_1.sub)]] ∧ Ex.size x_1 < 1099511627776 ∧ Ex.zx x_1 < 1099511627776) fun n_5 => .all (fun (x : Bool) => (bif bif bif n_2 then true else n_4 then true else decide ((1000 : Int) < y.name.length) then true else decide ((3000 : Int) < y.value.length)) = false → x = (decide (Ex.errX n_5 = 0) && decide (Ex.zt n_5 = 1))) fun n_6 => .ite (bif bif bif bif bif n_2 then true else n_4 then true else decide ((1000 : Int) < y.name.length) then true else decide ((3000 : Int) < y.value.length) then true else !n_6 then true else !n) (.leaf (.ret [.bool n] [.box [.int .u8 x.kind, .str x.rat, .str x.name, .int .i64 x.date, .sl x.sub.length 5 (Ex.exG x.sub)], .box [.sl f.length 3 (fxG f), .sl c.length 4 (chG c)], .box [.str y.name, .int .i64 y.date, .str y.value]])) (.ex (fun (x_1 : VI) => LeL [AV.agg [AV.int .u8 x.kind, AV.str x.rat, AV.str x.name, AV.int .i64 x.date, AV.sl x.sub.length 5 (Ex.exG x.sub)], AV.int .i64 day, AV.agg [AV.sl f.length 3 (fxG f), AV.sl c.length 4 (chG c)]] [AV.agg [AV.int .u8 x_1.x.kind, AV.str x_1.x.rat, AV.str x_1.x.name, AV.int .i64 x_1.x.date, AV.sl x_1.x.sub.length 5 (Ex.exG x_1.x.sub)], AV.int .i64 x_1.day, AV.agg [AV.sl x_1.f.length 3 (fxG x_1.f), AV.sl x_1.c.length 4 (chG x_1.c)]] ∧ VI.ok x_1) fun n_7 => .all (fun (r : List UInt8 × Int) => r = zZ n_7.x n_7.day n_7.f n_7.c) fun n_8 => .ite (bif decide ((0 : Int) ≤ day) then decide (day ≤ 99999) else false) (.ex (fun (x_1 : Ex × Int) => eqL [AV.agg [AV.int .u8 x.kind, AV.str x.rat, AV.str x.name, AV.int .i64 x.date, AV.sl x.sub.length 5 (Ex.exG x.sub)], AV.int .i64 day] [AV.agg [AV.int .u8 x_1.1.kind, AV.str x_1.1.rat, AV.str x_1.1.name, AV.int .i64 x_1.1.date, AV.sl x_1.1.sub.length 5 (Ex.exG x_1.1.sub)], AV.int .i64 x_1.2] ∧ Ex.size x_1.1 < 1099511627776) fun n_9 => .all (fun (x : Unit) => True) fun n_10 => .ex (fun (x : VI) => LeL [AV.agg [AV.int .u8 (Ex.kind (Ex.fixX n_9.2 n_9.1)), AV.str (Ex.rat (Ex.fixX n_9.2 n_9.1)), AV.str (Ex.name (Ex.fixX n_9.2 n_9.1)), AV.int .i64 (Ex.date (Ex.fixX n_9.2 n_9.1)), AV.sl (List.length (Ex.sub (Ex.fixX n_9.2 n_9.1))) 5 (Ex.deep (Ex.fixX n_9.2 n_9.1))], AV.int .i64 day, AV.agg [AV.sl f.length 3 (fxG f), AV.sl c.length 4 (chG c)]] [AV.agg [AV.int .u8 x.x.kind, AV.str x.x.rat, AV.str x.x.name, AV.int .i64 x.x.date, AV.sl x.x.sub.length 5 (Ex.exG x.x.sub)], AV.int .i64 x.day, AV.agg [AV.sl x.f.length 3 (fxG x.f), AV.sl x.c.length 4 (chG x.c)]] ∧ VI.ok x) fun n_11 => .all (fun (r : List UInt8 × Int) => r = zZ n_11.x n_11.day n_11.f n_11.c) fun n_12 => .ite (bif !decide (n_8.1 = n_12.1) then true else !decide (n_8.2 = n_12.2)) (.leaf (.ret [.bool false] [.box [.int .u8 x.kind, .str x.rat, .str x.name, .int .i64 x.date, .sl x.sub.length 5 (Ex.exG x.sub)], .box [.sl f.length 3 (fxG f), .sl c.length 4 (chG c)], .box [.str y.name, .int .i64 y.date, .str y.value]])) (.ex (fun (x : (List Fx × List Ch) × Fx) => eqL [AV.agg [AV.sl f.length 3 (fxG f), AV.sl c.length 4 (chG c)], AV.agg [AV.str y.name, AV.int .i64 y.date, AV.str y.value]] [AV.agg [AV.sl (List.length (x.1.1)) 3 (fxG (x.1.1)), AV.sl x.1.2.length 4 (chG x.1.2)], AV.agg [AV.str x.2.name, AV.int .i64 x.2.date, AV.str x.2.value]] ∧ envP x.1 ∧ ji x.2) fun n_13 => .all (fun (r : (List Fx × List Ch) × Int) => r = putF (n_13.1.1) n_13.1.2 n_13.2) fun n_14 => .ex (fun (x_1 : Ex × List UInt8) => (!decide (n_14.2 = 0)) = false → eqL [AV.agg [AV.int .u8 x.kind, AV.str x.rat, AV.str x.name, AV.int .i64 x.date, AV.sl x.sub.length 5 (Ex.exG x.sub)], AV.str y.name] [AV.agg [AV.int .u8 x_1.1.kind, AV.str x_1.1.rat, AV.str x_1.1.name, AV.int .i64 x_1.1.date, AV.sl x_1.1.sub.length 5 (Ex.exG x_1.1.sub)], AV.str x_1.2] ∧ Ex.size x_1.1 < 1099511627776) fun n_15 => .all (fun (x : Bool) => (!decide (n_14.2 = 0)) = false → x = Ex.men n_15.2 n_15.1) fun n_16 => .ite (bif !decide (n_14.2 = 0) then true else n_16) (.leaf (.ret [.bool n] [.box [.int .u8 x.kind, .str x.rat, .str x.name, .int .i64 x.date, .sl x.sub.length 5 (Ex.exG x.sub)], .box [.sl f.length 3 (fxG f), .sl c.length 4 (chG c)], .box [.str y.name, .int .i64 y.date, .str y.value], .arr (List.length (n_14.1.1)) 3 (fxG (n_14.1.1)), .arr n_14.1.2.length 4 (chG n_14.1.2), .box [.osl 3 3 0 (List.length (n_14.1.1)), .osl 4 4 0 n_14.1.2.length]])) (.ex (fun (x_1 : VI) => LeL [AV.agg [AV.int .u8 x.kind, AV.str x.rat, AV.str x.name, AV.int .i64 x.date, AV.sl x.sub.length 5 (Ex.exG x.sub)], AV.int .i64 day, AV.agg [AV.sl (List.length (n_14.1.1)) 3 (zg (fxG (n_14.1.1)) 0), AV.sl n_14.1.2.length 4 (zg (chG n_14.1.2) 0)]] [AV.agg [AV.int .u8 x_1.x.kind, AV.str x_1.x.rat, AV.str x_1.x.name, AV.int .i64 x_1.x.date, AV.sl x_1.x.sub.length 5 (Ex.exG x_1.x.sub)], AV.int .i64 x_1.day, AV.agg [AV.sl x_1.f.length 3 (fxG x_1.f), AV.sl x_1.c.length 4 (chG x_1.c)]] ∧ VI.ok x_1) fun n_17 => .all (fun (r : List UInt8 × Int) => r = zZ n_17.x n_17.day n_17.f n_17.c) fun n_18 => .leaf (.ret [.bool (bif bif n then decide (n_8.1 = n_18.1) else false then decide (n_8.2 = n_18.2) else false)] [.box [.int .u8 x.kind, .str x.rat, .str x.name, .int .i64 x.date, .sl x.sub.length 5 (Ex.exG x.sub)], .box [.sl f.length 3 (fxG f), .sl c.length 4 (chG c)], .box [.str y.name, .int .i64 y.date, .str y.value], .arr (List.length (n_14.1.1)) 3 (fxG (n_14.1.1)), .arr n_14.1.2.length 4 (chG n_14.1.2), .box [.osl 3 3 0 (List.length (n_14.1.1)), .osl 4 4 0 n_14.1.2.length]])))) (.ex (fun (x : (List Fx × List Ch) × Fx) => eqL [AV.agg [AV.sl f.length 3 (fxG f), AV.sl c.length 4 (chG c)], AV.agg [AV.str y.name, AV.int .i64 y.date, AV.str y.value]] [AV.agg [AV.sl (List.length (x.1.1)) 3 (fxG (x.1.1)), AV.sl x.1.2.length 4 (chG x.1.2)], AV.agg [AV.str x.2.name, AV.int .i64 x.2.date, AV.str x.2.value]] ∧ envP x.1 ∧ ji x.2) fun n_9 => .all (fun (r : (List Fx × List Ch) × Int) => r = putF (n_9.1.1) n_9.1.2 n_9.2) fun n_10 => .ex (fun (x_1 : Ex × List UInt8) => (!decide (n_10.2 = 0)) = false → eqL [AV.agg [AV.int .u8 x.kind, AV.str x.rat, AV.str x.name, AV.int .i64 x.date, AV.sl x.sub.length 5 (Ex.exG x.sub)], AV.str y.name] [AV.agg [AV.int .u8 x_1.1.kind, AV.str x_1.1.rat, AV.str x_1.1.name, AV.int .i64 x_1.1.date, AV.sl x_1.1.sub.length 5 (Ex.exG x_1.1.sub)], AV.str x_1.2] ∧ Ex.size x_1.1 < 1099511627776) fun n_11 => .all (fun (x : Bool) => (!decide (n_10.2 = 0)) = false → x = Ex.men n_11.2 n_11.1) fun n_12 => .ite (bif !decide (n_10.2 = 0) then true else n_12) (.leaf (.ret [.bool n] [.box [.int .u8 x.kind, .str x.rat, .str x.name, .int .i64 x.date, .sl x.sub.length 5 (Ex.exG x.sub)], .box [.sl f.length 3 (fxG f), .sl c.length 4 (chG c)], .box [.str y.name, .int .i64 y.date, .str y.value], .arr (List.length (n_10.1.1)) 3 (fxG (n_10.1.1)), .arr n_10.1.2.length 4 (chG n_10.1.2), .box [.osl 3 3 0 (List.length (n_10.1.1)), .osl 4 4 0 n_10.1.2.length]])) (.ex (fun (x_1 : VI) => LeL [AV.agg [AV.int .u8 x.kind, AV.str x.rat, AV.str x.name, AV.int .i64 x.date, AV.sl x.sub.length 5 (Ex.exG x.sub)], AV.int .i64 day, AV.agg [AV.sl (List.length (n_10.1.1)) 3 (zg (fxG (n_10.1.1)) 0), AV.sl n_10.1.2.length 4 (zg (chG n_10.1.2) 0)]] [AV.agg [AV.int .u8 x_1.x.kind, AV.str x_1.x.rat, AV.str x_1.x.name, AV.int .i64 x_1.x.date, AV.sl x_1.x.sub.length 5 (Ex.exG x_1.x.sub)], AV.int .i64 x_1.day, AV.agg [AV.sl x_1.f.length 3 (fxG x_1.f), AV.sl x_1.c.length 4 (chG x_1.c)]] ∧ VI.ok x_1) fun n_13 => .all (fun (r : List UInt8 × Int) => r = zZ n_13.x n_13.day n_13.f n_13.c) fun n_14 => .leaf (.ret [.bool (bif bif n then decide (n_8.1 = n_14.1) else false then decide (n_8.2 = n_14.2) else false)] [.box [.int .u8 x.kind, .str x.rat, .str x.name, .int .i64 x.date, .sl x.sub.length 5 (Ex.exG x.sub)], .box [.sl f.length 3 (fxG f), .sl c.length 4 (chG c)], .box [.str y.name, .int .i64 y.date, .str y.value], .arr (List.length (n_10.1.1)) 3 (fxG (n_10.1.1)), .arr n_10.1.2.length 4 (chG n_10.1.2), .box [.osl 3 3 0 (List.length (n_10.1.1)), .osl 4 4 0 n_10.1.2.length]])))) := by kernel_rfl
theorem zc3 : zb Tryd.prog 3 lawO := by
 refine ze (fn := Tryd.f3) (c := Tryd.f3.body.getD .skip) rfl rfl rfl fun p hp O w0 Q hq => ?_
 obtain ⟨x, day, ⟨f, c⟩, y⟩ := p
 replace hq := hq _ rfl
 simp only at hq hp
 have fin : ∀ (b : Bool) (h : Heap), b = true → RetR lawO 0 Q [.bool b] h := by
  rintro b h rfl
  exact RetR.scal hq rfl (by simp [resV])
 refine zc.run hmix zec [] 400 (YI x day f c y) ?_
 simp only [Tree.holds, zd]
 obtain ⟨hx, _, he, hy0⟩ := hp
 refine ⟨(), ⟨trivial, trivial⟩, ⟨true, rfl⟩, ?_⟩
 rintro _ rfl
 refine ⟨x, ⟨by simp [za], hx⟩, ⟨true, fun h => (by cases h)⟩, ?_⟩
 intro g1 hg1
 refine ⟨(f, c), fun _ => ⟨by simp [za], he⟩, ⟨true, fun _ h => (by cases h)⟩, ?_⟩
 intro g2 hg2
 refine ⟨x, fun h => ⟨by simp [za], ?_⟩, ⟨_, fun _ => rfl⟩, ?_⟩
 ·simp only [orf] at h
  have := hg1 h.1.1.1
  exact ⟨by omega, by omega⟩
 intro n hn
 refine ⟨fun _ => fin _ _ rfl, fun h => ?_⟩
 simp only [orf] at h hn
 obtain ⟨⟨⟨⟨⟨i1, i2⟩, i3⟩, i4⟩, i5⟩, _⟩ := h
 have hE := Yn (hg2 i1 i2)
 have hs := hg1 i1
 have n1 := hn ⟨⟨⟨i1, i2⟩, i3⟩, i4⟩
 have i5 : n = true := by simpa using i5
 rw [i5] at n1
 replace n1 := n1.symm
 simp only [Bool.and_eq_true, decide_eq_true_eq] at n1
 have i3 := of_decide_eq_false i3
 have i4 := of_decide_eq_false i4
 have hy : ji y := ⟨by omega, by omega⟩
 have sx : x.size < 2 ^ 40 := by omega
 have sb : x.zx < 2 ^ 40 := by omega
 clear i1 i2 i3 i4 i5 hg1 hg2 hn
 refine ⟨⟨x, day, f, c⟩, ⟨LeL.refl _, sx, sb, hE⟩, ⟨_, rfl⟩, ?_⟩
 intro A hA
 replace hA : A = zZ x day f c := hA
 refine ⟨fun hd => ?_, fun _ => ?_⟩
 ·have hd : dayB day = true := by
   rw [andt] at hd
   have h1 := of_decide_eq_true hd.1
   have h2 := of_decide_eq_true hd.2
   unfold dayB
   simp [h1, h2]
  refine ⟨(x, day), ⟨by simp [za], sx⟩, ⟨(), trivial⟩, fun _ _ => ?_⟩
  refine ⟨⟨x.fixX day, day, f, c⟩, ⟨qX ⟨⟨⟨rfl, rfl⟩, rfl, rfl, ⟨rfl, rfl⟩, ⟨rfl, rfl, Ex.qU _⟩, trivial⟩, ⟨rfl, rfl⟩, ⟨⟨rfl, rfl, za _ _ _⟩, ⟨rfl, rfl, za _ _ _⟩, trivial⟩, trivial⟩, by show (x.fixX day).size < _; rw [Ex.ua]; exact sx, by show (x.fixX day).zx < _; rw [Ex.Qo]; exact sb, hE⟩, ⟨_, rfl⟩, ?_⟩
  intro B hB
  replace hB : B = zZ x day f c := Eq.trans hB (Xr n1.1 n1.2 hd)
  refine finB (by rw [hA, hB]; simp) ?_
  refine ⟨((f, c), y), ⟨by simp [Fx.av, za], hE, hy⟩, ⟨_, rfl⟩, ?_⟩
  intro W hW
  replace hW : W = putF f c y := hW
  refine ⟨(x, y.name), fun _ => ⟨by simp [za], by omega⟩, ⟨_, fun _ => rfl⟩, ?_⟩
  intro m hm
  refine ⟨fun _ => fin _ _ rfl, fun h => ?_⟩
  rw [orf] at h
  obtain ⟨k1, k2⟩ := h
  have hW0 : W.2 = 0 := by simpa using k1
  have hm2 : x.men y.name = false := (hm k1).symm.trans k2
  rw [hW] at hW0
  have eW := JW hE hy hW0
  have V := Qi n1.1 n1.2 hW0 hm2 (day := day)
  rw [← hW] at eW V
  refine ⟨⟨x, day, W.1.1, W.1.2⟩, ⟨qX (by simp [za, wm]), sx, sb, eW⟩, ⟨_, rfl⟩, ?_⟩
  intro Cv hC
  replace hC : Cv = zZ x day f c := Eq.trans hC V
  exact fin _ _ (by rw [hC, hA]; simp)
 ·refine ⟨((f, c), y), ⟨by simp [Fx.av, za], hE, hy⟩, ⟨_, rfl⟩, ?_⟩
  intro W hW
  replace hW : W = putF f c y := hW
  refine ⟨(x, y.name), fun _ => ⟨by simp [za], by omega⟩, ⟨_, fun _ => rfl⟩, ?_⟩
  intro m hm
  refine ⟨fun _ => fin _ _ rfl, fun h => ?_⟩
  rw [orf] at h
  obtain ⟨k1, k2⟩ := h
  have hW0 : W.2 = 0 := by simpa using k1
  have hm2 : x.men y.name = false := (hm k1).symm.trans k2
  rw [hW] at hW0
  have eW := JW hE hy hW0
  have V := Qi n1.1 n1.2 hW0 hm2 (day := day)
  rw [← hW] at eW V
  refine ⟨⟨x, day, W.1.1, W.1.2⟩, ⟨qX (by simp [za, wm]), sx, sb, eW⟩, ⟨_, rfl⟩, ?_⟩
  intro Cv hC
  replace hC : Cv = zZ x day f c := Eq.trans hC V
  exact fin _ _ (by rw [hC, hA]; simp)
end Go.Proofs.Tryd
end

/- From a reading of the arguments to their representation; from a contract to a call. -/
section
namespace Go.Sx
variable [Stat]
open Go.RowKit (Below)
def E0 : Nat → Prop := Own (fun _ => False) []
theorem Qa (b : Nat) : ¬ E0 b := by
 rintro (h | ⟨e, he, _⟩)
 ·exact h
 ·simp at he
def Tw (P : Program) (W : World) (t : TypeId) (cs : List Value) : Prop := ∃ (H : Type) (enc : TypeId × Value → H) (base fuel : Nat) (d : DataW H) (ps : List MemPlace), DataW.trod enc P W base (fun _ => true) true fuel t cs = some (d, ps) ∧ ∀ n ∈ d.weights P t, n ≤ reachBytes
section
variable {P : Program} {W : World} {t e : TypeId} {cs : List Value}
theorem yc (ht : P.underlying t = some .string) (h : Tw P W t cs) : ∃ s : List UInt8, cs = [.string ⟨s.toArray⟩] ∧ s.length ≤ reachBytes := by
 obtain ⟨H, enc, base, fuel, d, ps, h, hw⟩ := h
 obtain ⟨s, rfl, hx, _⟩ := DataW.trod_string ht h
 cases hx
 exact ⟨s.data.toList, by simp, hw _ (by simp [DataW.weights])⟩
theorem u0 {k : IntKind} (ht : P.underlying t = some (.int k)) (h : Tw P W t cs) : ∃ n, cs = [.int k n] ∧ (Lit.int k n).wf = true := by
 obtain ⟨H, enc, base, fuel, d, ps, h, hw⟩ := h
 obtain ⟨n, rfl, hx, hwf⟩ := DataW.trod_int ht h
 exact ⟨n, rfl, hwf⟩
theorem zbd (ht : P.underlying t = some .bool) (h : Tw P W t cs) : ∃ b, cs = [.bool b] := by
 obtain ⟨H, enc, base, fuel, d, ps, h, hw⟩ := h
 obtain ⟨b, rfl, hx⟩ := DataW.trod_bool ht h
 exact ⟨b, rfl⟩
theorem yk {fs : Array Field} (ht : P.underlying t = some (.struct fs)) (h : Tw P W t cs) : cs.length = P.cellsOf t ∧ ∀ (i : Nat) (f : Field), fs[i]? = some f → Tw P W f.type ((cs.drop f.offset).take (P.cellsOf f.type)) := by
 obtain ⟨H, enc, base, fuel, d, ps, h, hw⟩ := h
 obtain ⟨xs, n, _, hx, hl, hlen, hf⟩ := DataW.trod_struct ht h
 cases hx
 refine ⟨hl, fun i f hfi => ?_⟩
 have hi := hf i f hfi
 have hlt : i < xs.length := by
  rw [hlen]; exact (Array.getElem?_eq_some_iff.1 hfi).1
 rw [List.getElem?_eq_getElem hlt] at hi
 refine ⟨H, enc, base, n, xs[i].1, xs[i].2, hi, fun m hm => hw m ?_⟩
 simp only [DataW.weights, ht]
 exact DataW.weights_mem_each (j := i) (t := f.type) (d := xs[i].1) (by simp [hfi]) (by simp [hlt]) m hm
theorem wy {H : Type} {d : DataW H} : ∀ {l : List (DataW H)}, d ∈ l → ∀ n ∈ d.weights P e, n ∈ DataW.weightsAll P e l
 | x :: l, hd, n, hn => by
  simp only [DataW.weightsAll, List.mem_append]
  rcases List.mem_cons.1 hd with rfl | hd
  ·exact .inl hn
  ·exact .inr (wy hd n hn)
theorem Y0 (ht : P.underlying t = some (.slice e)) (h : Tw P W t cs) : cs = [.slice none 0 0] ∨ ∃ (a : Addr) (len cap : Nat), cs = [.slice (some a) len cap] ∧ len ≤ cap ∧ cap * P.bytesOf e ≤ reachBytes ∧
  ∀ i, i < len → ∃ cs', cs'.length = P.cellsOf e ∧ (∀ o, o < P.cellsOf e → W.cell? ((a.add (i * P.cellsOf e)).add o) = cs'[o]?) ∧ Tw P W e cs' := by
 obtain ⟨H, enc, base, fuel, d, ps, h, hw⟩ := h
 rcases DataW.trod_slice ht h with ⟨rfl, _⟩ | ⟨a, len, cap, elems, rest, n, _, rfl, hx, hb, hl, hm, hlen, hel, hsp, _⟩
 ·exact .inl rfl
 ·right
  cases hx
  obtain ⟨hrl, _⟩ := hsp rfl
  simp only [DataW.weights, ht] at hw
  refine ⟨a, len, cap, rfl, hl, ?_, fun i hi => ?_⟩
  ·have := hw _ (List.mem_cons_self)
   simp only [List.length_map, hlen, hrl] at this
   rwa [show len + (cap - len) = cap by omega] at this
  ·have h1 := hel i hi
   have hlt : i < elems.length := by rw [hlen]; exact hi
   rw [List.getElem?_eq_getElem hlt, Option.bind_eq_some_iff] at h1
   obtain ⟨cs', h2, h3⟩ := h1
   obtain ⟨_, h4, h5⟩ := World.cells?_some h2
   refine ⟨cs', h4, h5, H, enc, base, n, elems[i].1, elems[i].2, h3, fun m hm2 => hw m ?_⟩
   simp only [List.mem_cons, List.mem_append]
   exact .inr (.inl (wy (d := elems[i].1) (List.mem_map.2 ⟨elems[i], List.getElem_mem hlt, rfl⟩) m hm2))
theorem Zz {α : Type} (z : α) (cell : α → Nat → AV) (good : α → Prop) {sz : Nat} (ht : P.underlying t = some (.slice e)) (hsz : P.cellsOf e = sz) (hpos : 0 < sz)
  (hel : ∀ cs', Tw P W e cs' → ∃ x : α, good x ∧ ∀ o, o < sz → ∃ c, cs'[o]? = some c ∧ c.oneCell' = true ∧ Rep E0 W (cell x o) [] c) (h : Tw P W t cs) :
  ∃ (l : List α) (v : Value), cs = [v] ∧ (∀ x ∈ l, good x) ∧ l.length * P.bytesOf e ≤ reachBytes ∧ v.oneCell' = true ∧ Rep E0 W (.sl l.length sz fun j => cell (l.getD j z)) [] v := by
 rcases Y0 ht h with rfl | ⟨a, len, cap, rfl, hl, hw, hx⟩
 ·refine ⟨[], _, rfl, by simp, by simp, rfl, ?_⟩
  simp only [Rep]
  exact ⟨none, 0, rfl, Nat.le_refl _, .inl rfl⟩
 ·rw [hsz] at hx
  have hx2 : ∀ i, ∃ x : α, i < len → good x ∧ ∀ o, o < sz → ∃ c, W.cell? ((a.add (i * sz)).add o) = some c ∧ c.oneCell' = true ∧ Rep E0 W (cell x o) [] c := fun i => by
   by_cases hi : i < len
   ·obtain ⟨cs', h1, h2, h3⟩ := hx i hi
    obtain ⟨x, hg, hc⟩ := hel cs' h3
    exact ⟨x, fun _ => ⟨hg, fun o ho => by
     obtain ⟨c, g1, g2, g3⟩ := hc o ho
     exact ⟨c, by rw [h2 o ho, g1], g2, g3⟩⟩⟩
   ·exact ⟨z, fun h => absurd h hi⟩
  obtain ⟨f, hf⟩ := Classical.axiomOfChoice hx2
  have hgd : ∀ j, j < len → ((List.range len).map f).getD j z = f j := fun j hj => by simp [List.getD, hj]
  refine ⟨(List.range len).map f, _, rfl, fun x hxm => ?_, ?_, rfl, ?_⟩
  ·obtain ⟨i, hi, rfl⟩ := List.mem_map.1 hxm
   exact (hf i (List.mem_range.1 hi)).1
  ·simp only [List.length_map, List.length_range]
   exact Nat.le_trans (Nat.mul_le_mul_right _ hl) hw
  ·simp only [Rep, List.length_map, List.length_range]
   refine ⟨some a, cap, rfl, hl, ?_⟩
   rcases Nat.eq_zero_or_pos len with h0 | h0
   ·exact .inl h0
   ·right
    have hspot : a.spot = none := by
     obtain ⟨c, g1, _⟩ := (hf 0 h0).2 0 hpos
     have := World.cell?_spot g1
     simpa [Addr.add] using this
    refine ⟨a, rfl, hspot, fun j o hj ho => ⟨Qa _, ?_⟩⟩
    obtain ⟨c, g1, g2, g3⟩ := (hf j hj).2 o ho
    refine ⟨c, ?_, g2, by rw [hgd j hj]; exact g3⟩
    rw [← g1]
    obtain ⟨b, off, spot⟩ := a
    simp only at hspot
    subst hspot
    congr 1
    simp only [Addr.add]
    split <;> split <;> simp_all <;> omega
theorem Xs {g : Nat} {fn : Func} {c : Code} (hf : P.funcs[g]? = some fn) (hb : fn.body = some c) (hn : (fn.name == "runtime.NumGoroutine") = false) {ctr : Ctr} (hok : zb P g ctr) {args : List AV} {vals : List Value}
  (hspec : (ctr.spec args []).holds fun r => r = (.bool true, [])) (hr : RepL E0 W args [] vals) (hst : w9 E0 W) : Calls P g vals.toArray W fun e W' => e = .returned (.bool true) ∧ Below W.heap.size W W' := by
 have hn' : ¬ fn.name = "runtime.NumGoroutine" := by simpa using hn
 have hg : Good (fun _ => False) W [] := ⟨fun b h => h.elim, fun i e ad he => by simp at he, hst⟩
 have hh : HRep (Own (fun _ => False) []) W [] [] := ⟨rfl, fun i j e f a b he => by simp at he, fun i e a he => by simp at he, fun i e b he => by simp at he⟩
 rcases hok args [] _ hspec (fun _ => rfl) (fun _ => False) W [] vals hg hh hr with ⟨_, h⟩ | ⟨v, w', h, _⟩
 ·refine h.mono ?_
  rintro e W' ⟨v, rfl, r, hs, σ', hq, h1, _, _, _, _, hx⟩
  cases hq
  simp only [Rep] at h1
  subst h1
  exact ⟨rfl, hx.os, hx.tape, hx.output, hx.size, fun k hk => hx.keep k hk fun ⟨e, he, _⟩ => by simp at he⟩
 ·simp [callFunc, hf, hn', hb] at h
end
end Go.Sx
end

/- Recursive data as arguments; package-level maps that read as they are laid. -/
section
namespace Go.Sx
variable [Stat]
def TwN (P : Program) (W : World) (fuel : Nat) (t : TypeId) (cs : List Value) : Prop := ∃ (H : Type) (enc : TypeId × Value → H) (base : Nat) (d : DataW H) (ps : List MemPlace), DataW.trod enc P W base (fun _ => true) true fuel t cs = some (d, ps) ∧ ∀ n ∈ d.weights P t, n ≤ reachBytes
section
variable {P : Program} {W : World} {t e : TypeId} {cs : List Value}
theorem TwN.tw {fuel : Nat} (h : TwN P W fuel t cs) : Tw P W t cs := by
 obtain ⟨H, enc, base, d, ps, h, hw⟩ := h
 exact ⟨H, enc, base, fuel, d, ps, h, hw⟩
theorem Tw.twn (h : Tw P W t cs) : ∃ fuel, TwN P W fuel t cs := by
 obtain ⟨H, enc, base, fuel, d, ps, h, hw⟩ := h
 exact ⟨fuel, H, enc, base, d, ps, h, hw⟩
theorem W8 {fuel : Nat} {fs : Array Field} (ht : P.underlying t = some (.struct fs)) (h : TwN P W fuel t cs) : cs.length = P.cellsOf t ∧ ∃ n, n < fuel ∧ ∀ (i : Nat) (f : Field), fs[i]? = some f → TwN P W n f.type ((cs.drop f.offset).take (P.cellsOf f.type)) := by
 obtain ⟨H, enc, base, d, ps, h, hw⟩ := h
 obtain ⟨xs, n, hn, hx, hl, hlen, hf⟩ := DataW.trod_struct ht h
 cases hx
 refine ⟨hl, n, by omega, fun i f hfi => ?_⟩
 have hi := hf i f hfi
 have hlt : i < xs.length := by
  rw [hlen]; exact (Array.getElem?_eq_some_iff.1 hfi).1
 rw [List.getElem?_eq_getElem hlt] at hi
 refine ⟨H, enc, base, xs[i].1, xs[i].2, hi, fun m hm => hw m ?_⟩
 simp only [DataW.weights, ht]
 exact DataW.weights_mem_each (j := i) (t := f.type) (d := xs[i].1) (by simp [hfi]) (by simp [hlt]) m hm
theorem Xk {fuel : Nat} (ht : P.underlying t = some (.slice e)) (h : TwN P W fuel t cs) : cs = [.slice none 0 0] ∨ ∃ (a : Addr) (len cap n : Nat), n < fuel ∧ cs = [.slice (some a) len cap] ∧ len ≤ cap ∧ cap * P.bytesOf e ≤ reachBytes ∧
  ∀ i, i < len → ∃ cs', cs'.length = P.cellsOf e ∧ (∀ o, o < P.cellsOf e → W.cell? ((a.add (i * P.cellsOf e)).add o) = cs'[o]?) ∧ TwN P W n e cs' := by
 obtain ⟨H, enc, base, d, ps, h, hw⟩ := h
 rcases DataW.trod_slice ht h with ⟨rfl, _⟩ | ⟨a, len, cap, elems, rest, n, hn, rfl, hx, hb, hl, hm, hlen, hel, hsp, _⟩
 ·exact .inl rfl
 ·right
  cases hx
  obtain ⟨hrl, _⟩ := hsp rfl
  simp only [DataW.weights, ht] at hw
  refine ⟨a, len, cap, n, by omega, rfl, hl, ?_, fun i hi => ?_⟩
  ·have := hw _ (List.mem_cons_self)
   simp only [List.length_map, hlen, hrl] at this
   rwa [show len + (cap - len) = cap by omega] at this
  ·have h1 := hel i hi
   have hlt : i < elems.length := by rw [hlen]; exact hi
   rw [List.getElem?_eq_getElem hlt, Option.bind_eq_some_iff] at h1
   obtain ⟨cs', h2, h3⟩ := h1
   obtain ⟨_, h4, h5⟩ := World.cells?_some h2
   refine ⟨cs', h4, h5, H, enc, base, elems[i].1, elems[i].2, h3, fun m hm2 => hw m ?_⟩
   simp only [List.mem_cons, List.mem_append]
   exact .inr (.inl (wy (d := elems[i].1) (List.mem_map.2 ⟨elems[i], List.getElem_mem hlt, rfl⟩) m hm2))
theorem WN {α : Type} (z : α) (cell : α → Nat → AV) (good : α → Prop) {sz fuel : Nat} (ht : P.underlying t = some (.slice e)) (hsz : P.cellsOf e = sz) (hpos : 0 < sz)
  (hel : ∀ n cs', n < fuel → TwN P W n e cs' → ∃ x : α, good x ∧ ∀ o, o < sz → ∃ c, cs'[o]? = some c ∧ c.oneCell' = true ∧ Rep E0 W (cell x o) [] c) (h : TwN P W fuel t cs) :
  ∃ (l : List α) (v : Value), cs = [v] ∧ (∀ x ∈ l, good x) ∧ l.length * P.bytesOf e ≤ reachBytes ∧ v.oneCell' = true ∧ Rep E0 W (.sl l.length sz fun j => cell (l.getD j z)) [] v := by
 rcases Xk ht h with rfl | ⟨a, len, cap, n, hn, rfl, hl, hw, hx⟩
 ·refine ⟨[], _, rfl, by simp, by simp, rfl, ?_⟩
  simp only [Rep]
  exact ⟨none, 0, rfl, Nat.le_refl _, .inl rfl⟩
 ·rw [hsz] at hx
  have hx2 : ∀ i, ∃ x : α, i < len → good x ∧ ∀ o, o < sz → ∃ c, W.cell? ((a.add (i * sz)).add o) = some c ∧ c.oneCell' = true ∧ Rep E0 W (cell x o) [] c := fun i => by
   by_cases hi : i < len
   ·obtain ⟨cs', h1, h2, h3⟩ := hx i hi
    obtain ⟨x, hg, hc⟩ := hel n cs' hn h3
    exact ⟨x, fun _ => ⟨hg, fun o ho => by
     obtain ⟨c, g1, g2, g3⟩ := hc o ho
     exact ⟨c, by rw [h2 o ho, g1], g2, g3⟩⟩⟩
   ·exact ⟨z, fun h => absurd h hi⟩
  obtain ⟨f, hf⟩ := Classical.axiomOfChoice hx2
  have hgd : ∀ j, j < len → ((List.range len).map f).getD j z = f j := fun j hj => by simp [List.getD, hj]
  refine ⟨(List.range len).map f, _, rfl, fun x hxm => ?_, ?_, rfl, ?_⟩
  ·obtain ⟨i, hi, rfl⟩ := List.mem_map.1 hxm
   exact (hf i (List.mem_range.1 hi)).1
  ·simp only [List.length_map, List.length_range]
   exact Nat.le_trans (Nat.mul_le_mul_right _ hl) hw
  ·simp only [Rep, List.length_map, List.length_range]
   refine ⟨some a, cap, rfl, hl, ?_⟩
   rcases Nat.eq_zero_or_pos len with h0 | h0
   ·exact .inl h0
   ·right
    have hspot : a.spot = none := by
     obtain ⟨c, g1, _⟩ := (hf 0 h0).2 0 hpos
     have := World.cell?_spot g1
     simpa [Addr.add] using this
    refine ⟨a, rfl, hspot, fun j o hj ho => ⟨Qa _, ?_⟩⟩
    obtain ⟨c, g1, g2, g3⟩ := (hf j hj).2 o ho
    refine ⟨c, ?_, g2, by rw [hgd j hj]; exact g3⟩
    rw [← g1]
    obtain ⟨b, off, spot⟩ := a
    simp only at hspot
    subst hspot
    congr 1
    simp only [Addr.add]
    split <;> split <;> simp_all <;> omega
theorem YU {H : Type} {enc : TypeId × Value → H} {base : Nat} {sp : Nat → Bool} {held : Bool} {fuel : Nat} {kd : IntKind} {ps : List Int} {q : List MemPlace} (ht : P.underlying t = some (.slice e)) (he : P.underlying e = some (.int kd)) (hc : P.cellsOf e = 1) (hne : ps ≠ [])
  (h : DataW.trod enc P W base sp held fuel t cs = some (.slice (ps.map fun z => .lit (.int kd z)) [], q)) : ∃ c, cs = [c] ∧ c.oneCell' = true ∧ Rep E0 W (.sl ps.length 1 fun j _ => .int kd (ps.getD j 0)) [] c := by
 obtain ⟨a, cap, rfl, hl, hel⟩ := open_row ht hc h
 refine ⟨_, rfl, rfl, ?_⟩
 simp only [List.length_map] at hl
 have hv : ∀ j, j < ps.length → W.cell? (a.add j) = some (.int kd (ps.getD j 0)) := fun j hj => by
  obtain ⟨v, n, q', h1, h2⟩ := hel j (.lit (.int kd (ps.getD j 0))) (by simp [List.getD, hj])
  obtain ⟨m, h3, h4, _⟩ := DataW.trod_int he h2
  simp only [List.cons.injEq, and_true] at h3
  simp only [Prod.mk.injEq, DataW.lit.injEq, Lit.int.injEq, true_and] at h4
  rw [h1, h3, h4.1]
 simp only [Rep, List.length_map]
 refine ⟨some a, cap, rfl, hl, .inr ⟨a, rfl, ?_, fun j o hj ho => ⟨Qa _, .int kd (ps.getD j 0), ?_, rfl, rfl⟩⟩⟩
 ·have := World.cell?_spot (hv 0 (List.length_pos_iff.2 hne))
  simpa [Addr.add] using this
 ·have : o = 0 := by omega
  subst this
  have hs : a.spot = none := by
   have := World.cell?_spot (hv 0 (List.length_pos_iff.2 hne))
   simpa [Addr.add] using this
  rw [← hv j hj]
  obtain ⟨b, off, spot⟩ := a
  simp only at hs
  subst hs
  congr 1
  simp only [Addr.add]
  split <;> simp_all
end
section
open Go.WideElems Go.ChangeMaps
variable {H : Type} {enc : TypeId × Value → H} {P : Program} {W : World} {base : Nat} {sp : Nat → Bool} {held : Bool}
theorem uz {x : Lit × DataW H} : ∀ {l : List (Lit × DataW H)}, x ∈ l.foldr DataW.insert [] ↔ x ∈ l
 | [] => Iff.rfl
 | y :: l => by rw [List.foldr_cons, mem_insert_iff, uz, List.mem_cons]
theorem VE {g : Nat} {t k e : TypeId} {kd : IntKind} {ag : Bool} {sz : Nat} {ks : List Int} {has : Int → Bool} {get : Int → Nat → AV} {fuel : Nat} {c : Value} {es0 : List (Lit × DataW H)} {q : List MemPlace}
  (hg : (Stat.z g).isSome = true) (ht : P.underlying t = some (.map k e)) (hk : P.underlying k = some (.int kd)) (hc : W.cell? ⟨g, 0, none⟩ = some c) (hne : es0 ≠ [])
  (h : DataW.trod enc P W base sp held fuel t [c] = some (.map es0, q))
  (hin : ∀ (n : Int) (d : DataW H), (.int kd n, d) ∈ es0 → has n = true ∧ ∀ (v : Value) (m : Nat) (q : List MemPlace), v.formed P e = true → DataW.trod enc P W base sp held m e v.cells.toList = some (d, q) →
   match ag with
   | true => ∃ vs : List Value, v = .agg vs.toArray ∧ vs.length = sz ∧ ∀ o, o < sz → ∃ c, vs[o]? = some c ∧ Rep E0 W (get n o) [] c
   | false => Rep E0 W (get n 0) [] v)
  (hout : ∀ n, has n = true → ∃ d, (.int kd n, d) ∈ es0) : Rep E0 W (.mp kd ag sz ks has get) [] c ∧ ∀ b, c = .map (some b) → b < W.heap.size := by
 rcases open_map ht h with ⟨_, hx⟩ | ⟨b, es, clock, n, _, hcs, hb, _, F, hx⟩
 ·simp at hx
 ·simp only [List.cons.injEq, and_true] at hcs
  subst hcs
  simp only [Prod.mk.injEq, DataW.map.injEq] at hx
  have hkey : ∀ x ∈ es.toList, ∃ (m : Int) (z : DataW H × List MemPlace), x.key = .int kd m ∧ elemAt enc P W base sp held n e x.val = some z ∧ (.int kd m, z.1) ∈ es0 := by
   intro x hxm
   obtain ⟨y, hy⟩ := F.reads x hxm
   have h1 := rd_key hy
   obtain ⟨z, h2, h3⟩ := rd_val hy
   have h4 : y ∈ es0 := by rw [hx.1, uz]; exact List.mem_map.2 ⟨x, hxm, rg_of hy⟩
   have h5 : mapKey P k x.key = some y.1 := by
    simp only [keyOf, hk] at h1
    exact h1
   unfold mapKey at h5
   rw [hk] at h5
   cases hxk : x.key with
   | int k' m =>
    rw [hxk] at h5
    simp only at h5
    split at h5
    ·rename_i hc2
     have h6 := Option.some.inj h5
     obtain ⟨rfl, _⟩ := hc2
     refine ⟨m, z, rfl, h2, ?_⟩
     rw [h6, ← h3]; exact h4
    ·cases h5
   | _ => rw [hxk] at h5; simp at h5
  have hlt : b < W.heap.size := (Array.getElem?_eq_some_iff.1 hb).1
  refine ⟨?_, fun b' hb' => by cases hb'; exact hlt⟩
  simp only [Rep]
  refine ⟨b, es, clock, rfl, Qa _, ⟨g, Qa _, hg, hc⟩, hb, fun m => ?_⟩
  have hspec := MapKept.findNow_spec (d := .int kd) (k := .int kd m) (by simp [MapKept.IsKey]) es.toList 0 (fun x hxm => by
   obtain ⟨m', z, h1, _⟩ := hkey x hxm
   rw [h1]; simp [MapKept.IsKey])
  rcases hspec with ⟨h1, h2⟩ | ⟨j, x, h1, h2, h3⟩
  ·refine ⟨fun _ => h1, fun hm => ?_⟩
   obtain ⟨d, hd⟩ := hout m hm
   rw [hx.1, uz] at hd
   obtain ⟨x, hxm, hrx⟩ := List.mem_map.1 hd
   obtain ⟨y, hy⟩ := F.reads x hxm
   rw [rg_of hy] at hrx
   have h5 := rd_key hy
   rw [hrx] at h5
   obtain ⟨m', z, g1, _⟩ := hkey x hxm
   have : keyOf P k x.key = some (.int kd m') := by
    rw [g1] at h5 ⊢
    simp only [keyOf, hk, mapKey] at h5 ⊢
    split at h5
    ·rename_i hwf; rw [if_pos hwf]
    ·cases h5
   rw [this] at h5
   cases h5
   exact absurd g1 (h2 x hxm)
  ·have hxm : x ∈ es.toList := List.mem_of_getElem? h2
   obtain ⟨m', z, g1, g2, g3⟩ := hkey x hxm
   rw [h3] at g1
   cases g1
   obtain ⟨hh, hrep⟩ := hin m z.1 g3
   refine ⟨fun hf => (by rw [hf] at hh; cases hh), fun _ => ⟨_, x.val, h1, ?_⟩⟩
   unfold elemAt at g2
   split at g2
   ·rename_i hfm
    exact hrep x.val n z.2 hfm g2
   ·cases g2
end
end Go.Sx
end

/- What rows hand to laws: arguments as data. -/
section
set_option maxRecDepth 100000
namespace Go.Proofs.YtmebjiaogdkfpaaDoor
open Go Go.Sx Go.Nov Go.Proofs.Tryd Go.ChangeShapes Go.WideShapes Go.ChangeAt Go.RowKit
theorem k7 : Tryd.prog.cellsOf 9 = 1 := by kernel_rfl
theorem Qk : Tryd.prog.cellsOf 22 = 1 := by kernel_rfl
theorem ye : Tryd.prog.cellsOf 3 = 1 := by kernel_rfl
theorem WZ : Tryd.prog.cellsOf 4 = 1 := by kernel_rfl
theorem Wx : Tryd.prog.cellsOf 31 = 3 := by kernel_rfl
theorem J7 : Tryd.prog.cellsOf 49 = 4 := by kernel_rfl
theorem UL : Tryd.prog.cellsOf 26 = 1 := by kernel_rfl
theorem XS : Tryd.prog.cellsOf 27 = 1 := by kernel_rfl
theorem Xd : Tryd.prog.cellsOf 29 = 2 := by kernel_rfl
def YJ (x : Fx) : Prop := x.name.length ≤ reachBytes ∧ x.value.length ≤ reachBytes
def UN (x : Ch) : Prop := x.zo.length ≤ reachBytes ∧ x.name.length ≤ reachBytes
theorem JB {W : World} {cs : List Value} (h : Tw Tryd.prog W 31 cs) : ∃ x : Fx, YJ x ∧ cs = [.string ⟨x.name.toArray⟩, .int .i64 x.date, .string ⟨x.value.toArray⟩] := by
 obtain ⟨hl, hf⟩ := yk Tryd.underlying31 h
 rw [Wx] at hl
 match cs, hl with
 | [a, b, c], _ =>
  have h0 : Tw Tryd.prog W 9 (([a, b, c].drop 0).take (Tryd.prog.cellsOf 9)) := hf 0 _ rfl
  rw [k7] at h0
  replace h0 : Tw Tryd.prog W 9 [a] := h0
  have h1 : Tw Tryd.prog W 3 (([a, b, c].drop 1).take (Tryd.prog.cellsOf 3)) := hf 1 _ rfl
  rw [ye] at h1
  replace h1 : Tw Tryd.prog W 3 [b] := h1
  have h2 : Tw Tryd.prog W 22 (([a, b, c].drop 2).take (Tryd.prog.cellsOf 22)) := hf 2 _ rfl
  rw [Qk] at h2
  replace h2 : Tw Tryd.prog W 22 [c] := h2
  obtain ⟨s, e0, w0⟩ := yc Tryd.underlying9 h0
  obtain ⟨n, e1, w1⟩ := u0 Tryd.underlying3 h1
  obtain ⟨u, e2, w2⟩ := yc Tryd.underlying22 h2
  cases e0; cases e1; cases e2
  exact ⟨⟨s, n, u⟩, ⟨w0, w2⟩, rfl⟩
theorem UQ {W : World} {cs : List Value} (h : Tw Tryd.prog W 49 cs) : ∃ x : Ch, UN x ∧ cs = [.string ⟨x.zo.toArray⟩, .string ⟨x.name.toArray⟩, .int .i64 x.date, .bool x.first] := by
 obtain ⟨hl, hf⟩ := yk Tryd.underlying49 h
 rw [J7] at hl
 match cs, hl with
 | [a, b, c, d], _ =>
  have h0 : Tw Tryd.prog W 9 (([a, b, c, d].drop 0).take (Tryd.prog.cellsOf 9)) := hf 0 _ rfl
  rw [k7] at h0
  replace h0 : Tw Tryd.prog W 9 [a] := h0
  have h1 : Tw Tryd.prog W 9 (([a, b, c, d].drop 1).take (Tryd.prog.cellsOf 9)) := hf 1 _ rfl
  rw [k7] at h1
  replace h1 : Tw Tryd.prog W 9 [b] := h1
  have h2 : Tw Tryd.prog W 3 (([a, b, c, d].drop 2).take (Tryd.prog.cellsOf 3)) := hf 2 _ rfl
  rw [ye] at h2
  replace h2 : Tw Tryd.prog W 3 [c] := h2
  have h3 : Tw Tryd.prog W 4 (([a, b, c, d].drop 3).take (Tryd.prog.cellsOf 4)) := hf 3 _ rfl
  rw [WZ] at h3
  replace h3 : Tw Tryd.prog W 4 [d] := h3
  obtain ⟨s, e0, w0⟩ := yc Tryd.underlying9 h0
  obtain ⟨u, e1, w1⟩ := yc Tryd.underlying9 h1
  obtain ⟨n, e2, w2⟩ := u0 Tryd.underlying3 h2
  obtain ⟨b, e3⟩ := zbd Tryd.underlying4 h3
  cases e0; cases e1; cases e2; cases e3
  exact ⟨⟨s, u, n, b⟩, ⟨w0, w1⟩, rfl⟩
theorem KY {W : World} {cs : List Value} (h : Tw Tryd.prog W 29 cs) : ∃ (f : List Fx) (c : List Ch) (u v : Value), cs = [u, v] ∧ (∀ x ∈ f, YJ x) ∧ (∀ x ∈ c, UN x) ∧ f.length * 40 ≤ reachBytes ∧ c.length * 48 ≤ reachBytes ∧ Rep E0 W (fxS f) [] u ∧ Rep E0 W (chS c) [] v := by
 obtain ⟨hl, hf⟩ := yk Tryd.underlying29 h
 rw [Xd] at hl
 match cs, hl with
 | [a, b], _ =>
  have h0 : Tw Tryd.prog W 26 (([a, b].drop 0).take (Tryd.prog.cellsOf 26)) := hf 0 _ rfl
  rw [UL] at h0
  replace h0 : Tw Tryd.prog W 26 [a] := h0
  have h1 : Tw Tryd.prog W 27 (([a, b].drop 1).take (Tryd.prog.cellsOf 27)) := hf 1 _ rfl
  rw [XS] at h1
  replace h1 : Tw Tryd.prog W 27 [b] := h1
  obtain ⟨f, u, e0, gf, wf, _, rf⟩ := Zz Fx.nil Fx.cell YJ Tryd.underlying26 Wx (by decide) (fun cs' h' => by
   obtain ⟨x, hx, rfl⟩ := JB h'
   refine ⟨x, hx, fun o ho => ?_⟩
   match o, ho with
   | 0, _ => exact ⟨_, rfl, rfl, by simp [Fx.cell, Rep]⟩
   | 1, _ => exact ⟨_, rfl, rfl, by simp [Fx.cell, Rep]⟩
   | 2, _ => exact ⟨_, rfl, rfl, by simp [Fx.cell, Rep]⟩) h0
  obtain ⟨c, v, e1, gc, wc, _, rc⟩ := Zz Ch.nil Ch.cell UN Tryd.underlying27 J7 (by decide) (fun cs' h' => by
   obtain ⟨x, hx, rfl⟩ := UQ h'
   refine ⟨x, hx, fun o ho => ?_⟩
   match o, ho with
   | 0, _ => exact ⟨_, rfl, rfl, by simp [Ch.cell, Rep]⟩
   | 1, _ => exact ⟨_, rfl, rfl, by simp [Ch.cell, Rep]⟩
   | 2, _ => exact ⟨_, rfl, rfl, by simp [Ch.cell, Rep]⟩
   | 3, _ => exact ⟨_, rfl, rfl, by simp [Ch.cell, Rep]⟩) h1
  cases e0; cases e1
  have b1 : Tryd.prog.bytesOf 31 = 40 := by kernel_rfl
  have b2 : Tryd.prog.bytesOf 49 = 48 := by kernel_rfl
  rw [b1] at wf
  rw [b2] at wc
  exact ⟨f, c, _, _, rfl, gf, gc, wf, wc, rf, rc⟩
theorem zbw {W : World} {cs : List Value} (h : Tw Tryd.prog W 29 cs) : ∃ p : List Fx × List Ch, zcr p ∧ Rep E0 W (envA p.1 p.2) [] (.agg cs.toArray) := by
 obtain ⟨f, c, u, v, rfl, gf, gc, wf, wc, rf, rc⟩ := KY h
 have hr := reachBytes_lt
 refine ⟨(f, c), ⟨by show f.length < _; omega, by show c.length < _; omega, fun j hj => ?_, fun j hj => ?_⟩, ?_⟩
 ·have := gf (f.getD j Fx.nil) (by simp only at hj; simp [List.getD, hj])
  exact ⟨by have := this.1; show (f.getD j Fx.nil).name.length < _; omega, by have := this.2; show (f.getD j Fx.nil).value.length < _; omega⟩
 ·have := gc (c.getD j Ch.nil) (by simp only at hj; simp [List.getD, hj])
  exact ⟨by have := this.1; show (c.getD j Ch.nil).zo.length < _; omega, by have := this.2; show (c.getD j Ch.nil).name.length < _; omega⟩
 ·simp only [RepL, Rep, envA]
  exact ⟨[u, v], rfl, u, _, rfl, rf, v, _, rfl, rc, rfl⟩
theorem ze9 {W : World} {cs : List Value} (h : Tw Tryd.prog W 31 cs) : ∃ x : Fx, JL x ∧ Rep E0 W x.av [] (.agg cs.toArray) := by
 obtain ⟨x, hx, rfl⟩ := JB h
 have hr := reachBytes_lt
 refine ⟨x, ⟨by have := hx.1; omega, by have := hx.2; omega⟩, ?_⟩
 simp only [RepL, Rep, Fx.av]
 exact ⟨_, rfl, _, _, rfl, rfl, _, _, rfl, rfl, _, _, rfl, rfl, rfl⟩
theorem zav {W : World} {cs : List Value} (h : Tw Tryd.prog W 3 cs) : ∃ n : Int, cs = [.int .i64 n] ∧ inR .i64 n ∧ Rep E0 W (.int .i64 n) [] (.int .i64 n) := by
 obtain ⟨n, rfl, hn⟩ := u0 Tryd.underlying3 h
 refine ⟨n, rfl, ?_, by simp [Rep]⟩
 simp only [Lit.wf, Bool.and_eq_true, decide_eq_true_eq] at hn
 exact hn
theorem Uu : Tryd.prog.cellsOf 5 = 1 := by kernel_rfl
theorem XF : Tryd.prog.cellsOf 23 = 1 := by kernel_rfl
theorem Ww : Tryd.prog.cellsOf 25 = 5 := by kernel_rfl
theorem JJ : ∀ {l : List Ex}, (∀ x ∈ l, x.thin) → Ex.u5 l
 | [], _ => by rw [Ex.u5]; trivial
 | x :: l, h => by rw [Ex.u5]; exact ⟨h x (by simp), JJ fun y hy => h y (by simp [hy])⟩
theorem Uc {W : World} : ∀ (fuel : Nat) {cs : List Value}, TwN Tryd.prog W fuel 25 cs →
  ∃ (x : Ex) (v : Value), x.thin ∧ cs = [.int .u8 x.kind, .string ⟨x.rat.toArray⟩, .string ⟨x.name.toArray⟩, .int .i64 x.date, v] ∧ v.oneCell' = true ∧ Rep E0 W (.sl x.sub.length 5 x.deep) [] v := by
 intro fuel
 induction fuel using Nat.strongRecOn with
 | ind fuel ih =>
  intro cs h
  obtain ⟨hl, n, hn, hf⟩ := W8 Tryd.underlying25 h
  rw [Ww] at hl
  match cs, hl with
  | [a, b, c, d, e], _ =>
   have h0 : TwN Tryd.prog W n 5 (([a, b, c, d, e].drop 0).take (Tryd.prog.cellsOf 5)) := hf 0 _ rfl
   rw [Uu] at h0
   replace h0 : TwN Tryd.prog W n 5 [a] := h0
   have h1 : TwN Tryd.prog W n 22 (([a, b, c, d, e].drop 1).take (Tryd.prog.cellsOf 22)) := hf 1 _ rfl
   rw [Qk] at h1
   replace h1 : TwN Tryd.prog W n 22 [b] := h1
   have h2 : TwN Tryd.prog W n 9 (([a, b, c, d, e].drop 2).take (Tryd.prog.cellsOf 9)) := hf 2 _ rfl
   rw [k7] at h2
   replace h2 : TwN Tryd.prog W n 9 [c] := h2
   have h3 : TwN Tryd.prog W n 3 (([a, b, c, d, e].drop 3).take (Tryd.prog.cellsOf 3)) := hf 3 _ rfl
   rw [ye] at h3
   replace h3 : TwN Tryd.prog W n 3 [d] := h3
   have h4 : TwN Tryd.prog W n 23 (([a, b, c, d, e].drop 4).take (Tryd.prog.cellsOf 23)) := hf 4 _ rfl
   rw [XF] at h4
   replace h4 : TwN Tryd.prog W n 23 [e] := h4
   obtain ⟨k, e0, _⟩ := u0 Tryd.underlying5 h0.tw
   obtain ⟨r, e1, w1⟩ := yc Tryd.underlying22 h1.tw
   obtain ⟨m, e2, w2⟩ := yc Tryd.underlying9 h2.tw
   obtain ⟨z, e3, _⟩ := u0 Tryd.underlying3 h3.tw
   obtain ⟨l, v, e4, gl, _, hone, hr⟩ := WN Ex.nil (fun x => Ex.cell x.kind x.rat x.name x.date x.sub.length x.deep) Ex.thin Tryd.underlying23 Ww (by decide) (fun n' cs' hn' h' => by
    obtain ⟨x, v, hx, rfl, hv, hr⟩ := ih n' (by omega) h'
    refine ⟨x, hx, fun o ho => ?_⟩
    match o, ho with
    | 0, _ => exact ⟨_, rfl, rfl, by simp [Ex.cell, Rep]⟩
    | 1, _ => exact ⟨_, rfl, rfl, by simp [Ex.cell, Rep]⟩
    | 2, _ => exact ⟨_, rfl, rfl, by simp [Ex.cell, Rep]⟩
    | 3, _ => exact ⟨_, rfl, rfl, by simp [Ex.cell, Rep]⟩
    | 4, _ => exact ⟨v, rfl, hv, hr⟩) h4
   cases e0; cases e1; cases e2; cases e3; cases e4
   have hb : reachBytes ≤ 2 ^ 48 := by decide
   refine ⟨.mk k r m z l, _, ?_, rfl, hone, ?_⟩
   ·rw [Ex.thin]; exact ⟨Nat.le_trans w1 hb, Nat.le_trans w2 hb, JJ gl⟩
   ·have hq := Ex.qU (.mk k r m z l)
    simp only [Ex.sub] at hq ⊢
    simp only [Rep] at hr ⊢
    obtain ⟨a, cap, hv, hle, hcase⟩ := hr
    refine ⟨a, cap, hv, hle, hcase.imp id fun ⟨ad, g1, g2, g3⟩ => ⟨ad, g1, g2, fun j o hj ho => ?_⟩⟩
    obtain ⟨g4, c, g5, g6, g7⟩ := g3 j o hj ho
    refine ⟨g4, c, g5, g6, ?_⟩
    rw [hq j o hj ho]
    exact g7
theorem vE {W : World} {cs : List Value} (h : Tw Tryd.prog W 25 cs) : ∃ x : Ex, x.thin ∧ Rep E0 W x.exA [] (.agg cs.toArray) := by
 obtain ⟨fuel, h⟩ := h.twn
 obtain ⟨x, v, hx, rfl, _, hr⟩ := Uc fuel h
 refine ⟨x, hx, ?_⟩
 have hq := Ex.qU x
 have hr2 : Rep E0 W (Ex.exS x.sub) [] v := by
  simp only [Ex.exS, Rep] at hr ⊢
  obtain ⟨a, cap, hv, hle, hcase⟩ := hr
  refine ⟨a, cap, hv, hle, hcase.imp id fun ⟨ad, g1, g2, g3⟩ => ⟨ad, g1, g2, fun j o hj ho => ?_⟩⟩
  obtain ⟨g4, c, g5, g6, g7⟩ := g3 j o hj ho
  exact ⟨g4, c, g5, g6, by rw [← hq j o hj ho]; exact g7⟩
 simp only [Ex.exA, Rep, RepL]
 exact ⟨_, rfl, _, _, rfl, rfl, _, _, rfl, rfl, _, _, rfl, rfl, _, _, rfl, rfl, _, _, rfl, hr2, rfl⟩
end Go.Proofs.YtmebjiaogdkfpaaDoor
end

/- For every input the law returns true, and each argument reads behind the call as it read before. -/
section
set_option maxRecDepth 100000
namespace Go.Proofs.YtmebjiaogdkfpaaDoor
open Go Go.Sx Go.Nov Go.Proofs.Tryd Go.ChangeShapes Go.WideShapes Go.ChangeAt Go.RowKit
theorem We : Tryd.prog.cellsOf 63 = 1 := by kernel_rfl
theorem UP : Tryd.prog.cellsOf 90 = 1 := by kernel_rfl
theorem YB : Tryd.prog.cellsOf 92 = 2 := by kernel_rfl
def shpE (H : Type) : List (Lit × DataW H) := shpL.map fun p => (.int .u8 p.1, .agg [.slice (p.2.1.map fun z => .lit (.int .u8 z)) [], .lit (.int .u8 p.2.2)])
theorem za2 : ∀ p ∈ shpL, xo p.1 = some p.2 ∧ p.2.1 ≠ [] := by decide
theorem zaq {k : Int} (h : qt k = true) : ∃ q, (k, q) ∈ shpL := by
 unfold qt xo at h
 rw [Option.isSome_map] at h
 obtain ⟨p, hp⟩ := Option.isSome_iff_exists.1 h
 have h1 := List.find?_some hp
 have h2 := List.mem_of_find?_eq_some hp
 have : p.1 = k := by simpa using h1
 exact ⟨p.2, by rw [← this]; exact h2⟩
theorem Ve {W : World} {cs : List Value} {fuel : Nat} {q : List MemPlace} {c : Value} (hc : W.cell? ⟨0, 0, none⟩ = some c)
  (h : DataW.trod (fun _ => ()) Tryd.prog W 0 (fun _ => true) false fuel 94 [c] = some (.map (shpE Unit), q)) :
  Rep E0 W (.mp .u8 true 2 [] (fun k => qt k) fun k o => match o with
   | 0 => .sl (jb k) 1 fun j _ => .int .u8 (qk k j)
   | _ => .int .u8 (qG k)) [] c ∧ ∀ b, c = .map (some b) → b < W.heap.size := by
 refine VE (g := 0) rfl Tryd.underlying94 Tryd.underlying5 hc (by decide) h ?_ ?_
 ·intro n d hd
  obtain ⟨p, hp, he⟩ := List.mem_map.1 hd
  obtain ⟨h1, h2⟩ := za2 p hp
  simp only [Prod.mk.injEq, Lit.int.injEq, true_and] at he
  obtain ⟨rfl, rfl⟩ := he
  refine ⟨by simp [qt, h1], fun v m q' hf ht => ?_⟩
  obtain ⟨xs, n', _, hx, hl, hlen, hfs⟩ := DataW.trod_struct Tryd.underlying92 ht
  rw [YB] at hl
  cases v with
  | agg cs =>
   simp only [Value.cells] at hl hfs
   obtain ⟨cs⟩ := cs
   simp only at hl hfs
   match cs, hl with
   | [a, b], _ =>
    have f0 : DataW.trod _ Tryd.prog W 0 _ false n' 90 (([a, b].drop 0).take (Tryd.prog.cellsOf 90)) = xs[0]? := hfs 0 _ rfl
    have f1 : DataW.trod _ Tryd.prog W 0 _ false n' 63 (([a, b].drop 1).take (Tryd.prog.cellsOf 63)) = xs[1]? := hfs 1 _ rfl
    rw [UP] at f0
    rw [We] at f1
    match xs, hlen with
    | [x0, x1], _ =>
     simp only [List.map_cons, List.map_nil, Prod.mk.injEq, DataW.agg.injEq, List.cons.injEq, and_true] at hx
     obtain ⟨⟨hx0, hx1⟩, _⟩ := hx
     have f0 : DataW.trod _ Tryd.prog W 0 _ false n' 90 [a] = some x0 := f0
     have f1 : DataW.trod _ Tryd.prog W 0 _ false n' 63 [b] = some x1 := f1
     obtain ⟨x0a, x0b⟩ := x0
     obtain ⟨x1a, x1b⟩ := x1
     simp only at hx0 hx1
     subst hx0; subst hx1
     obtain ⟨c0, e0, _, hr⟩ := YU Tryd.underlying90 Tryd.underlying63 We h2 f0
     cases e0
     obtain ⟨z, e1, e2, _⟩ := DataW.trod_int Tryd.underlying63 f1
     cases e1
     simp only [Prod.mk.injEq, DataW.lit.injEq, Lit.int.injEq, true_and] at e2
     refine ⟨[a, .int .u8 z], rfl, rfl, fun o ho => ?_⟩
     have g1 : qf p.1 = p.2.1 := by simp [qf, h1]
     have g2 : qG p.1 = p.2.2 := by simp [qG, h1]
     match o, ho with
     | 0, _ =>
      refine ⟨a, rfl, ?_⟩
      show Rep E0 W (.sl (jb p.1) 1 fun j _ => .int .u8 (qk p.1 j)) [] a
      unfold jb qk
      rw [g1]
      exact hr
     | 1, _ =>
      refine ⟨_, rfl, ?_⟩
      show Rep E0 W (.int .u8 (qG p.1)) [] _
      simp only [Rep]
      rw [g2, e2.1]
  | _ => simp [Value.formed, Tryd.underlying92] at hf
 ·intro n hn
  obtain ⟨q', hq⟩ := zaq hn
  exact ⟨_, List.mem_map.2 ⟨_, hq, rfl⟩⟩
end Go.Proofs.YtmebjiaogdkfpaaDoor
end

/- What the package-level variables hold when a law begins. -/
section
set_option maxRecDepth 100000
namespace Go.Proofs.YtmebjiaogdkfpaaDoor
open Go Go.Sx Go.Nov Go.Proofs.Tryd Go.ChangeShapes Go.WideShapes Go.ChangeAt Go.RowKit
theorem zbv : Tryd.prog.globalNamed "novation/observable.shapes" = some 0 := by kernel_rfl
theorem zbo : (Tryd.prog.globals[0]?).map (·.type) = some 94 := by kernel_rfl
theorem zag : (Rows.laid_novation_observable_shapes : DataW Unit) = .map (shpE Unit) := rfl
theorem Wy {W : World} (h : laidMet Tryd.prog [("novation/observable.shapes", Rows.laid_novation_observable_shapes)] W) : ∃ c, W.cell? ⟨0, 0, none⟩ = some c ∧
  Rep E0 W (.mp .u8 true 2 [] (fun k => qt k) fun k o => match o with
   | 0 => .sl (jb k) 1 fun j _ => .int .u8 (qk k j)
   | _ => .int .u8 (qG k)) [] c ∧ ∀ b, c = .map (some b) → b < W.heap.size := by
 obtain ⟨ps, ⟨g0, t0, cs0, f0, p0, q0, hg0, ht0, hv0, hd0, _, _⟩, _, _⟩ := h
 obtain rfl := Option.some.inj (zbv.symm.trans hg0)
 obtain rfl := Option.some.inj (zbo.symm.trans ht0)
 rw [zag] at hd0
 have hone : ∃ c, cs0.toList = [c] := by
  rcases Go.WideElems.open_map Tryd.underlying94 hd0 with ⟨hcs, _⟩ | ⟨b, es, clock, n, _, hcs, _⟩
  ·exact ⟨_, hcs⟩
  ·exact ⟨_, hcs⟩
 obtain ⟨c, hcs⟩ := hone
 rw [hcs] at hd0
 have hcell : W.cell? ⟨0, 0, none⟩ = some c := by
  have := World.var?_cell hg0 hv0 0
  rw [Array.eq_one_of_toList hcs] at this
  simpa using this
 obtain ⟨h1, h2⟩ := Ve (cs := [c]) hcell hd0
 exact ⟨c, hcell, h1, h2⟩
theorem gOps : Tryd.prog.globalNamed "novation/observable.operations" = some 1 := by kernel_rfl
theorem tOps : (Tryd.prog.globals[1]?).map (·.type) = some 97 := by kernel_rfl
def opNm (b : List UInt8) : List UInt8 := [40, 42, 110, 111, 118, 97, 116, 105, 111, 110, 47, 111, 98, 115, 101, 114, 118, 97, 98, 108, 101, 46, 115, 116, 97, 116, 101, 41, 46] ++ b
def opEs : List (Lit × DataW (List UInt8)) := [(.int .u8 4, .held (opNm [97, 100, 100])), (.int .u8 5, .held (opNm [115, 117, 98])), (.int .u8 6, .held (opNm [109, 117, 108])), (.int .u8 7, .held (opNm [103, 114, 101, 97, 116, 101, 114])), (.int .u8 8, .held (opNm [115, 109, 97, 108, 108, 101, 114]))]
abbrev Qq : List (String × DataW Unit) := [("novation/observable.shapes", Rows.laid_novation_observable_shapes), ("novation/observable.operations", Rows.laid_novation_observable_operations)]
def opsD : DataW Unit := .map [(.int .u8 4, .iface "func" (.lit (.string (opNm [97, 100, 100])))), (.int .u8 5, .iface "func" (.lit (.string (opNm [115, 117, 98])))), (.int .u8 6, .iface "func" (.lit (.string (opNm [109, 117, 108])))), (.int .u8 7, .iface "func" (.lit (.string (opNm [103, 114, 101, 97, 116, 101, 114])))), (.int .u8 8, .iface "func" (.lit (.string (opNm [115, 109, 97, 108, 108, 101, 114]))))]
theorem zao : (Rows.laid_novation_observable_operations : DataW Unit) = .iface "func table" opsD := rfl
theorem XK : opsD.funcsOut = .map opEs := rfl
theorem zbr {W : World} {cs : List Value} {fuel : Nat} {q : List MemPlace} {c : Value} (hc : W.cell? ⟨1, 0, none⟩ = some c)
  (h : DataW.trod (funcToken Tryd.prog) Tryd.prog W 0 (fun _ => true) true fuel 97 [c] = some (.map opEs, q)) :
  Rep E0 W (.mp .u8 false 1 [4, 5, 6, 7, 8] (fun k => decide (4 ≤ k ∧ k ≤ 8)) fun k _ =>
  if k = 4 then .fn 128 [] [] else if k = 5 then .fn 129 [] [] else if k = 6 then .fn 130 [] []
  else if k = 7 then .fn 131 [] [] else .fn 132 [] []) [] c ∧ ∀ b, c = .map (some b) → b < W.heap.size := by
 refine VE (g := 1) rfl Tryd.underlying97 Tryd.underlying5 hc (by decide) h ?_ ?_
 ·intro n d hd
  have one : ∀ {v : Value} {m : Nat} {q : List MemPlace} {bs : List UInt8} {f0 : Nat}, ((List.range Tryd.prog.funcs.size).filter fun f => (Tryd.prog.funcs[f]?).any (·.name.toUTF8.data.toList == 40 :: bs)) = [f0] →
    v.formed Tryd.prog 96 = true → DataW.trod (funcToken Tryd.prog) Tryd.prog W 0 (fun _ => true) true m 96 v.cells.toList = some (.held (40 :: bs), q) → Rep E0 W (.fn f0 [] []) [] v := by
   intro v m q bs f0 hone hf ht
   have hcell : v.cells.toList = [v] := by
    cases v with
    | agg _ => simp [Value.formed, Tryd.underlying96] at hf
    | _ => rfl
   rw [hcell] at ht
   have := func_of_trod Tryd.underlying96 hone ht
   subst this
   simp [Rep, RepL]
  simp only [opEs, List.mem_cons, Prod.mk.injEq, Lit.int.injEq, true_and, List.not_mem_nil, or_false] at hd
  rcases hd with ⟨rfl, rfl⟩ | ⟨rfl, rfl⟩ | ⟨rfl, rfl⟩ | ⟨rfl, rfl⟩ | ⟨rfl, rfl⟩
  ·exact ⟨rfl, fun v m q hf ht => one (f0 := 128) (by kernel_rfl) hf ht⟩
  ·exact ⟨rfl, fun v m q hf ht => one (f0 := 129) (by kernel_rfl) hf ht⟩
  ·exact ⟨rfl, fun v m q hf ht => one (f0 := 130) (by kernel_rfl) hf ht⟩
  ·exact ⟨rfl, fun v m q hf ht => one (f0 := 131) (by kernel_rfl) hf ht⟩
  ·exact ⟨rfl, fun v m q hf ht => one (f0 := 132) (by kernel_rfl) hf ht⟩
 ·intro n hn
  have hn := of_decide_eq_true hn
  have : n = 4 ∨ n = 5 ∨ n = 6 ∨ n = 7 ∨ n = 8 := by omega
  rcases this with rfl | rfl | rfl | rfl | rfl
  ·exact ⟨_, .head _⟩
  ·exact ⟨_, .tail _ (.head _)⟩
  ·exact ⟨_, .tail _ (.tail _ (.head _))⟩
  ·exact ⟨_, .tail _ (.tail _ (.tail _ (.head _)))⟩
  ·exact ⟨_, .tail _ (.tail _ (.tail _ (.tail _ (.head _))))⟩
theorem zb8 {W : World} (h : laidMetH Tryd.prog Qq W) : w9 E0 W := by
 have h1 : laidMet Tryd.prog [("novation/observable.shapes", Rows.laid_novation_observable_shapes)] W := h.1
 have h2 := laidMetH.funcs h (n := "novation/observable.operations") (d := opsD) (by simp [Qq, zao])
 obtain ⟨c1, k1, r1, b1⟩ := Wy h1
 obtain ⟨g0, t0, cs0, f0, p0, hg0, ht0, hv0, hd0⟩ := h2
 obtain rfl := Option.some.inj (gOps.symm.trans hg0)
 obtain rfl := Option.some.inj (tOps.symm.trans ht0)
 rw [XK] at hd0
 have hone : ∃ c, cs0.toList = [c] := by
  rcases Go.WideElems.open_map Tryd.underlying97 hd0 with ⟨hcs, _⟩ | ⟨b, es, clock, n, _, hcs, _⟩
  ·exact ⟨_, hcs⟩
  ·exact ⟨_, hcs⟩
 obtain ⟨c2, hcs⟩ := hone
 rw [hcs] at hd0
 have k2 : W.cell? ⟨1, 0, none⟩ = some c2 := by
  have := World.var?_cell hg0 hv0 0
  rw [Array.eq_one_of_toList hcs] at this
  simpa using this
 obtain ⟨r2, b2⟩ := zbr (cs := [c2]) k2 hd0
 refine ⟨fun g a hz => ⟨Qa _, ?_⟩⟩
 by_cases hg : g = 0
 ·subst hg
  cases hz
  exact ⟨c1, k1, r1, b1⟩
 ·by_cases hg2 : g = 1
  ·subst hg2
   cases hz
   exact ⟨c2, k2, r2, b2⟩
  ·have : Stat.z g = none := by
    show (if _ then _ else if _ then _ else _) = _
    rw [if_neg hg, if_neg hg2]
   rw [this] at hz; cases hz
end Go.Proofs.YtmebjiaogdkfpaaDoor
end

/- For every input the law returns true, and each argument reads behind the call as it read before. -/
section
set_option maxRecDepth 100000
namespace Go.Proofs.YtmebjiaogdkfpaaDoor
open Go Go.Sx Go.Nov Go.Proofs.Tryd Go.ChangeShapes Go.WideShapes Go.ChangeAt Go.RowKit
theorem walk {W : World} {v0 v1 v2 v3 : List Value} (h0 : Tw Tryd.prog W 25 v0) (h1 : Tw Tryd.prog W 3 v1) (h2 : Tw Tryd.prog W 29 v2) (h3 : Tw Tryd.prog W 31 v3) (hst : w9 E0 W) :
  ∃ s1 : Value, v1 = [s1] ∧ Calls Tryd.prog 3 #[.agg v0.toArray, s1, .agg v2.toArray, .agg v3.toArray] W fun e W' => e = .returned (.bool true) ∧ Below W.heap.size W W' := by
 obtain ⟨x, xg, xr⟩ := vE h0
 obtain ⟨day, rfl, dayg, dayr⟩ := zav h1
 obtain ⟨v, vg, vr⟩ := zbw h2
 obtain ⟨f, fg, fr⟩ := ze9 h3
 refine ⟨_, rfl, ?_⟩
 refine Xs (fn := Tryd.f3) (c := Tryd.f3.body.getD .skip) rfl rfl rfl zc3 (args := [x.exA, .int .i64 day, envA v.1 v.2, f.av]) (vals := [.agg v0.toArray, .int .i64 day, .agg v2.toArray, .agg v3.toArray]) ?_ ?_ hst
 ·refine ⟨(x, day, v, f), ⟨?_, ⟨xg, dayg, vg, fg⟩⟩, ⟨true, rfl⟩, ?_⟩
  ·simp [eqL, eqA, eqA0, eqL0, envA, fxS, chS, Fx.av, Ch.av, Ex.exA, Ex.exS, za]
  ·rintro _ rfl
   rfl
 ·exact ⟨_, _, rfl, xr, ⟨_, _, rfl, dayr, ⟨_, _, rfl, vr, ⟨_, _, rfl, fr, rfl⟩⟩⟩⟩
theorem own : ownKnob Tryd.prog.godebug = none := by kernel_rfl
theorem laid : laidOutB Tryd.prog = true := by kernel_rfl
theorem Yd (os : Os) (args : Array Value) : laidMetH Tryd.prog Qq ((World.doorLaid Tryd.prog 400 os).forCall (fun _ _ => 0) ⟨#[], args, []⟩).memory :=
 laidMetH_of_parts3 (fuel := 8) (laidMet_of_run' 8 (by kernel_rfl) (by kernel_rfl)) (by kernel_rfl) (by kernel_rfl)
theorem lifted (os : Os) (started : os.Started) (H : Type) (enc : TypeId × Value → H) :
  ReturnsInHanded {} Tryd.checked os 3 .any (fun w args => (Rows.observableLocalSpec.pre enc Tryd.prog Tryd.f3 [] false w args ∧ laidMetH Tryd.prog Qq w) ∧ sizedMet enc Tryd.prog Tryd.f3 (OpenSpec.ofChange Rows.observableLocalSpec) false w args)
   (Rows.observableLocalSpec.post enc Tryd.prog Tryd.f3 false true false false) := by
 refine returnsInHanded_of_change_and (C := Tryd.checked) (X := fun w _ => laidMetH Tryd.prog Qq w) (fun _ _ _ hh h => h.of_heap hh) own started (by kernel_rfl) Tryd.func3
  (ChangeSpec.witness_shaped (enc := enc) (C := Tryd.checked) (os := os) (X := fun w _ => laidMetH Tryd.prog Qq w) false (World.doorLaid Tryd.prog 400 os) #[.agg #[.int .u8 0, .string ⟨#[]⟩, .string ⟨#[]⟩, .int .i64 0, .slice none 0 0], .int .i64 0, .agg #[.slice none 0 0, .slice none 0 0], .agg #[.string ⟨#[]⟩, .int .i64 0, .string ⟨#[]⟩]] 8 rfl (World.shaped_of_RefB (by kernel_rfl) (by kernel_rfl)) (by kernel_rfl) (by kernel_rfl) (by kernel_rfl) (Yd os _)) ?_
 intro W base args ds gs before hval0 hW hcnd hwt hL _
 have hval : ∀ (j : Nat) t v, Tryd.f3.params[j]? = some t → args[j]? = some v → Value.okWide Tryd.prog W .any base t v := hval0
 have hW' := hW
 obtain ⟨p, q, hA0, hV, rfl, hfz, hnd⟩ := hW
 have hA : DataW.TrodAll enc Tryd.prog W 0 (fun _ => true) true Tryd.f3.params.toList args.toList ds p := hA0
 rw [Tryd.params3] at hA hval
 obtain ⟨v0, vs0, d0, ds0, p0, q0, hargs, rfl, rfl, h0, r0⟩ := trodAll_cons hA
 obtain ⟨v1, vs1, d1, ds1, p1, q1, rfl, rfl, rfl, h1, r1⟩ := trodAll_cons r0
 obtain ⟨v2, vs2, d2, ds2, p2, q2, rfl, rfl, rfl, h2, r2⟩ := trodAll_cons r1
 obtain ⟨v3, vs3, d3, ds3, p3, q3, rfl, rfl, rfl, h3, r3⟩ := trodAll_cons r2
 obtain ⟨rfl, rfl, rfl⟩ := trodAll_nil r3
 obtain rfl : args = #[v0, v1, v2, v3] := by cases args; simp_all
 obtain ⟨rfl, rfl⟩ := trodVars_none hV
 clear hA0 hval0
 simp only [List.append_nil] at hW' hwt
 have hw : ∀ (j : Nat) (t : TypeId) (d : DataW H), [25, 3, 29, 31][j]? = some t → [d0, d1, d2, d3][j]? = some d → ∀ n ∈ d.weights Tryd.prog t, n ≤ reachBytes := fun j t d ht hd n hn => by
  have := List.all_eq_true.1 hwt n (DataW.weights_mem_each (j := j) (t := t) (d := d) (by exact ht) (by exact hd) n hn)
  simpa using this
 obtain ⟨c0, rfl, _⟩ := okWide_struct Tryd.underlying25 (hval 0 25 v0 rfl rfl)
 obtain ⟨c1, rfl⟩ := okWide_int Tryd.underlying3 (hval 1 3 v1 rfl rfl)
 obtain ⟨c2, rfl, _⟩ := okWide_struct Tryd.underlying29 (hval 2 29 v2 rfl rfl)
 obtain ⟨c3, rfl, _⟩ := okWide_struct Tryd.underlying31 (hval 3 31 v3 rfl rfl)
 have t0 : Tw Tryd.prog W 25 c0.toList := by
  obtain ⟨fuel, hf⟩ := h0
  exact ⟨H, enc, 0, fuel, d0, p0, by simpa [Value.cells] using hf, hw 0 _ d0 rfl rfl⟩
 have t1 : Tw Tryd.prog W 3 [.int .i64 c1] := by
  obtain ⟨fuel, hf⟩ := h1
  exact ⟨H, enc, 0, fuel, d1, p1, by simpa [Value.cells] using hf, hw 1 _ d1 rfl rfl⟩
 have t2 : Tw Tryd.prog W 29 c2.toList := by
  obtain ⟨fuel, hf⟩ := h2
  exact ⟨H, enc, 0, fuel, d2, p2, by simpa [Value.cells] using hf, hw 2 _ d2 rfl rfl⟩
 have t3 : Tw Tryd.prog W 31 c3.toList := by
  obtain ⟨fuel, hf⟩ := h3
  exact ⟨H, enc, 0, fuel, d3, p3, by simpa [Value.cells] using hf, hw 3 _ d3 rfl rfl⟩
 have hlt : ∀ x ∈ p0 ++ (p1 ++ (p2 ++ p3)), x.block < W.heap.size := fun x hx => by simpa using hW'.lt x (by simpa using hx)
 obtain ⟨s1, e1, hcall⟩ := walk t0 t1 t2 t3 (zb8 hL)
 cases e1
 simp only [Array.toArray_toList] at hcall
 refine hcall.mono fun e W' ⟨he, hb⟩ => ?_
 subst he
 refine ⟨_, rfl, _, _, _, [], p0 ++ (p1 ++ (p2 ++ p3)), [], hW', trodAll_mk1 (shut_bool Tryd.underlying4 true), ?_, rfl, hb.frame _, fun h => by cases h⟩
 exact trodAll_mk4 (Below.trod laid (by kernel_rfl) (of_decide_eq_true (by kernel_rfl)) h0 hb fun x hx => hlt x (by simp [hx])) (Below.trod laid (by kernel_rfl) (of_decide_eq_true (by kernel_rfl)) h1 hb fun x hx => hlt x (by simp [hx])) (Below.trod laid (by kernel_rfl) (of_decide_eq_true (by kernel_rfl)) h2 hb fun x hx => hlt x (by simp [hx])) (Below.trod laid (by kernel_rfl) (of_decide_eq_true (by kernel_rfl)) h3 hb fun x hx => hlt x (by simp [hx]))
theorem over : Rows.observableLocalRow.holds Tryd.pinned (OpenSpec.ofChange Rows.observableLocalSpec) :=
 OpenClaim.holds_of_wide 3 Tryd.f3 rfl rfl rfl rfl rfl rfl rfl ⟨rfl, rfl, rfl, rfl, rfl⟩ rfl rfl rfl rfl rfl (by kernel_rfl) Tryd.func3 (by kernel_rfl)
  (of_decide_eq_true (by kernel_rfl)) (by unfold Func.isWrapper; first | (rw [if_pos (by decide +kernel)]; kernel_rfl) | (rw [if_neg (by decide +kernel)]; exact ⟨rfl, rfl⟩))
  (fun os started H enc _ => lifted os started H enc)
theorem vZ : Rows.ObservableLocalSaid := over
theorem observableLocal_holds : Rows.ObservableLocalCardSaid :=
 Claim7.holds_tied_plain_at .later [] [.mappedDeep, .funcs] true (true, "18a95e671ad8668c5004985c3c74422b3fb37ea83b85c6b4f47e8e2ae29b764e") false
  vZ (fun _ h => by cases h) (by kernel_rfl) (fun _ h => by cases h) observableLocal_row_tie rfl ⟨rfl, rfl⟩ (by kernel_rfl) rfl
  (fun f fn hf hfn => by
   obtain rfl : f = 3 := Option.some.inj ((show Tryd.prog.funcNamed "novation/novationlaw08.ObservableLocal" = some 3 by kernel_rfl).symm.trans hf) |>.symm
   obtain rfl : fn = Tryd.f3 := (Option.some.inj (Tryd.func3.symm.trans hfn)).symm
   exact ⟨by kernel_rfl, fun j t ht => by
    rw [Tryd.params3] at ht
    have hm : t ∈ [25, 3, 29, 31] := by simpa using Array.mem_of_getElem? ht
    have hall : ([25, 3, 29, 31].all fun u => !Tryd.prog.wantsStandIn u) = true := by kernel_rfl
    exact (show Tryd.prog.wantsStandIn t = false by simpa using List.all_eq_true.1 hall t hm)⟩)
  (by kernel_rfl)
end Go.Proofs.YtmebjiaogdkfpaaDoor
end
