/- Part 5 of the proof. -/
import Derived.Test.YtbnoamkgjjbfmaaSxd
set_option linter.unusedVariables false
set_option linter.unusedSimpArgs false
set_option linter.unusedSectionVars false

/- The integers: division; fractions. -/
section
set_option maxRecDepth 100000
open Go Go.Sx Go.Proofs Go.Nov
namespace Go.Proofs.Try
attribute [local simp] eqKV eqA eqA0 eqH eqB eqL eqL0
def dmC : Ctr := ctrP true (fun p : List UInt8 × List UInt8 => [.str p.1, .str p.2]) (fun p => p.1.length < 2 ^ 62 ∧ p.2.length < 2 ^ 62) (fun p r => r = dmI p.1 p.2) (fun _ r => (.tup [.str r.1, .str r.2.1, .int .i64 r.2.2], []))
noncomputable def GDm : Nat → Option Ctr := fun f => if f = 65 then some (yu) else if f = 71 then some (xd) else if f = 84 then some (V9) else if f = 86 then some (Qz) else if f = 66 then some (yL) else none
theorem zad : ∀ g c, GDm g = some c → ze Try.prog g c := okIf Qy (okIf ZO (okIf VS (okIf ub (okIf u2 (zz)))))
theorem Kn : ze Try.prog 87 dmC := by
 refine zr (fn := Try.f87) (c := Try.f87.body.getD .skip) rfl rfl rfl fun p hp O w0 Q hq => ?_
 obtain ⟨s, t⟩ := p
 obtain ⟨hs, ht⟩ := hp
 replace hq := hq _ rfl
 simp only at hs ht hq
 refine zb.run hmix zad [] 400 (T := .ex (fun (x : List UInt8 × List UInt8) => eqL [AV.str s, AV.str t] [AV.str x.1, AV.str x.2] ∧ x.1.length < 4611686018427387904 ∧ x.2.length < 4611686018427387904) fun n => .all (fun (r : Int × (Bool × Nat) × Bool × Nat) => r = if zp n.1 n.2 = 0 then ((0 : Int), (negI n.1, numI n.1), negI n.2, numI n.2) else (zp n.1 n.2, (false, 0), false, 0)) fun n => .ite (!decide (n.1 = 0)) (.leaf (.ret [.str (Array.toList #[]), .str (Array.toList #[]), .int .i64 n.1] [.box [.bool (Prod.fst (n.2.1)), .sl (List.length (canon (Prod.snd (n.2.1)))) 1 (natG .u32 (canon (Prod.snd (n.2.1))))], .box [.bool (Prod.fst (n.2.2)), .sl (List.length (canon (Prod.snd (n.2.2)))) 1 (natG .u32 (canon (Prod.snd (n.2.2))))]])) (.ite (decide ((↑(List.length (canon (Prod.snd (n.2.2)))) : Int) = 0)) (.leaf (.ret [.str (Array.toList #[]), .str (Array.toList #[]), .int .i64 16] [.box [.bool (Prod.fst (n.2.1)), .sl (List.length (canon (Prod.snd (n.2.1)))) 1 (natG .u32 (canon (Prod.snd (n.2.1))))], .box [.bool (Prod.fst (n.2.2)), .sl (List.length (canon (Prod.snd (n.2.2)))) 1 (natG .u32 (canon (Prod.snd (n.2.2))))]])) (.ex (fun (x : Nat × Nat) => eqL [AV.sl (List.length (canon (Prod.snd (n.2.1)))) 1 (natG .u32 (canon (Prod.snd (n.2.1)))), AV.sl (List.length (canon (Prod.snd (n.2.2)))) 1 (natG .u32 (canon (Prod.snd (n.2.2))))] [AV.sl (canon x.1).length 1 (natG .u32 (canon x.1)), AV.sl (canon x.2).length 1 (natG .u32 (canon x.2))] ∧ List.length (canon x.1) < 100000 ∧ List.length (canon x.2) < 100000 ∧ 0 < x.2) fun n_1 => .all (fun (r : Nat × Nat) => r = (n_1.1 / n_1.2, n_1.1 % n_1.2)) fun n_2 => .ite (bif Prod.fst (n.2.1) then decide ((0 : Int) < (↑(canon n_2.2).length : Int)) else false) (.ex (fun (x : Nat × Nat) => eqL [AV.sl (canon n_2.1).length 1 (natG .u32 (canon n_2.1)), AV.sl 1 1 (zh (zc 1 [AV.int .u32 1]) 0)] [AV.sl (canon x.1).length 1 (natG .u32 (canon x.1)), AV.sl (canon x.2).length 1 (natG .u32 (canon x.2))] ∧ List.length (canon x.1) < 100000 ∧ List.length (canon x.2) < 100000) fun n_3 => .all (fun (d : Nat) => d = n_3.1 + n_3.2) fun n_4 => .ex (fun (x : Nat × Nat) => eqL [AV.sl (List.length (canon (Prod.snd (n.2.2)))) 1 (natG .u32 (canon (Prod.snd (n.2.2)))), AV.sl (canon n_2.2).length 1 (natG .u32 (canon n_2.2))] [AV.sl (canon x.1).length 1 (natG .u32 (canon x.1)), AV.sl (canon x.2).length 1 (natG .u32 (canon x.2))] ∧ fits x.1 ∧ x.2 ≤ x.1) fun n_5 => .all (fun (d : Nat) => d = n_5.1 - n_5.2) fun n_6 => .ex (fun (x : Bool × Nat) => eqL [AV.agg [AV.bool !Prod.fst (n.2.1) == Prod.fst (n.2.2), AV.sl (canon n_4).length 1 (natG .u32 (canon n_4))]] [AV.agg [AV.bool x.1, AV.sl (canon x.2).length 1 (natG .u32 (canon x.2))]] ∧ List.length (canon x.2) < 1000000) fun n_7 => .all (fun (r : List UInt8 × Int) => r = wr n_7.1 n_7.2) fun n_8 => .ite (!decide (n_8.2 = 0)) (.leaf (.ret [.str (Array.toList #[]), .str (Array.toList #[]), .int .i64 n_8.2] [.box [.bool (Prod.fst (n.2.1)), .sl (List.length (canon (Prod.snd (n.2.1)))) 1 (natG .u32 (canon (Prod.snd (n.2.1))))], .box [.bool (Prod.fst (n.2.2)), .sl (List.length (canon (Prod.snd (n.2.2)))) 1 (natG .u32 (canon (Prod.snd (n.2.2))))], .arr 1 1 (zc 1 [.int .u32 1])])) (.ex (fun (x : Bool × Nat) => eqL [AV.agg [AV.bool false, AV.sl (canon n_6).length 1 (natG .u32 (canon n_6))]] [AV.agg [AV.bool x.1, AV.sl (canon x.2).length 1 (natG .u32 (canon x.2))]] ∧ List.length (canon x.2) < 1000000) fun n_9 => .all (fun (r : List UInt8 × Int) => r = wr n_9.1 n_9.2) fun n_10 => .leaf (.ret [.str n_8.1, .str n_10.1, .int .i64 0] [.box [.bool (Prod.fst (n.2.1)), .sl (List.length (canon (Prod.snd (n.2.1)))) 1 (natG .u32 (canon (Prod.snd (n.2.1))))], .box [.bool (Prod.fst (n.2.2)), .sl (List.length (canon (Prod.snd (n.2.2)))) 1 (natG .u32 (canon (Prod.snd (n.2.2))))], .arr 1 1 (zc 1 [.int .u32 1])]))) (.ex (fun (x : Bool × Nat) => eqL [AV.agg [AV.bool !Prod.fst (n.2.1) == Prod.fst (n.2.2), AV.sl (canon n_2.1).length 1 (natG .u32 (canon n_2.1))]] [AV.agg [AV.bool x.1, AV.sl (canon x.2).length 1 (natG .u32 (canon x.2))]] ∧ List.length (canon x.2) < 1000000) fun n_3 => .all (fun (r : List UInt8 × Int) => r = wr n_3.1 n_3.2) fun n_4 => .ite (!decide (n_4.2 = 0)) (.leaf (.ret [.str (Array.toList #[]), .str (Array.toList #[]), .int .i64 n_4.2] [.box [.bool (Prod.fst (n.2.1)), .sl (List.length (canon (Prod.snd (n.2.1)))) 1 (natG .u32 (canon (Prod.snd (n.2.1))))], .box [.bool (Prod.fst (n.2.2)), .sl (List.length (canon (Prod.snd (n.2.2)))) 1 (natG .u32 (canon (Prod.snd (n.2.2))))]])) (.ex (fun (x : Bool × Nat) => eqL [AV.agg [AV.bool false, AV.sl (canon n_2.2).length 1 (natG .u32 (canon n_2.2))]] [AV.agg [AV.bool x.1, AV.sl (canon x.2).length 1 (natG .u32 (canon x.2))]] ∧ List.length (canon x.2) < 1000000) fun n_5 => .all (fun (r : List UInt8 × Int) => r = wr n_5.1 n_5.2) fun n_6 => .leaf (.ret [.str n_4.1, .str n_6.1, .int .i64 0] [.box [.bool (Prod.fst (n.2.1)), .sl (List.length (canon (Prod.snd (n.2.1)))) 1 (natG .u32 (canon (Prod.snd (n.2.1))))], .box [.bool (Prod.fst (n.2.2)), .sl (List.length (canon (Prod.snd (n.2.2)))) 1 (natG .u32 (canon (Prod.snd (n.2.2))))]])))))) (by kernel_rfl) ?_
 simp only [Tree.holds, zd]
 refine ⟨(s, t), ⟨by simp, by omega, by omega⟩, ⟨_, rfl⟩, ?_⟩
 rintro _ rfl
 simp only
 by_cases he : zp s t = 0
 ·obtain ⟨e1, e2⟩ := zl.1 he
  have c1 := zS (qV e1) (by decide)
  have c2 := zS (qV e2) (by decide)
  simp only [if_pos he]
  refine ⟨fun h => (by simp at h), fun _ => ?_⟩
  refine ⟨fun h0 => ?_, fun h0 => ?_⟩
  ·have h0 : numI t = 0 := kB.1 (by have := of_decide_eq_true h0; omega)
   have e : dmI s t = ([], [], 16) := by rw [dmI, if_neg (by rw [he]; decide), if_pos h0]
   rw [e] at hq
   exact RetR.scal hq rfl (by simp [resV])
  have h0 : numI t ≠ 0 := fun h => of_decide_eq_false h0 (by rw [kB.2 h]; rfl)
  have e : dmI s t = ((wr (negI s != negI t) (dmQ s t)).1, (wr false (dmM s t)).1, 0) := by rw [dmI, if_neg (by rw [he]; decide), if_neg h0]
  rw [e] at hq
  have rq := Yy e1 h0
  have rm := XR (s := s) e2 h0
  have eL : ∀ a b : Nat, eqL [AV.sl (canon a).length 1 (natG .u32 (canon a)), AV.sl (canon b).length 1 (natG .u32 (canon b))] [AV.sl (canon a).length 1 (natG .u32 (canon a)), AV.sl (canon b).length 1 (natG .u32 (canon b))] := fun a b => ⟨⟨rfl, rfl, za _ _ _⟩, ⟨rfl, rfl, za _ _ _⟩, trivial⟩
  have eV : ∀ (b : Bool) (a : Nat), eqL [.agg [AV.bool b, AV.sl (canon a).length 1 (natG .u32 (canon a))]] [.agg [AV.bool b, AV.sl (canon a).length 1 (natG .u32 (canon a))]] := fun b a => ⟨⟨rfl, ⟨rfl, rfl, za _ _ _⟩, trivial⟩, trivial⟩
  have big : ∀ {a : Nat}, room a → (canon a).length < 1000000 := fun {a} h => by
   obtain ⟨h3, h4, _⟩ := yp (wN (neg := false) h)
   have := zS (qV h3) (by decide)
   rw [h4] at this; omega
  refine ⟨(numI s, numI t), ⟨eL _ _, c1, c2, Nat.pos_of_ne_zero h0⟩, ⟨_, rfl⟩, ?_⟩
  rintro _ rfl
  simp only
  rw [yT]
  have hmod := Nat.mod_lt (numI s) (Nat.pos_of_ne_zero h0)
  refine ⟨fun hc => ?_, fun hc => ?_⟩
  ·have hc : negI s = true ∧ 0 < numI s % numI t := by
    cases hn : negI s with
    | false => rw [hn] at hc; cases hc
    | true => rw [hn] at hc; exact ⟨rfl, of_decide_eq_true hc⟩
   have eQ : dmQ s t = numI s / numI t + 1 := if_pos hc
   have eM : dmM s t = numI t - numI s % numI t := if_pos hc
   rw [eQ, eM] at hq
   rw [eQ] at rq
   rw [eM] at rm
   have hone : canon 1 = [1] := by
    rw [qy (by decide)]
    exact congrArg (1 :: ·) z6
   have rdiv := room_le (Nat.div_le_self (numI s) (numI t)) (ja e1)
   have hdl : (canon (numI s / numI t)).length < 100000 := by
    have := zS (Nat.lt_of_le_of_lt (Nat.div_le_self (numI s) (numI t)) (qV e1)) (by decide)
    exact this
   refine ⟨(numI s / numI t, 1), ⟨⟨⟨rfl, rfl, za _ _ _⟩, ⟨by rw [hone]; rfl, rfl, ?_⟩, trivial⟩, hdl, by show (canon 1).length < 100000; rw [hone]; decide⟩, ⟨_, rfl⟩, ?_⟩
   ·intro j o hj ho
    have : j = 0 := by omega
    subst this
    have : o = 0 := by omega
    subst this
    show AV.int .u32 1 = .int .u32 (((canon 1).getD 0 0 : Nat) : Int)
    rw [hone]; rfl
   rintro _ rfl
   refine ⟨(numI t, numI s % numI t), ⟨eL _ _, by show (canon (numI t)).length < 1000000; omega, by show numI s % numI t ≤ numI t; omega⟩, ⟨_, rfl⟩, ?_⟩
   rintro _ rfl
   refine ⟨(negI s != negI t, numI s / numI t + 1), ⟨eV _ _, big rq⟩, ⟨_, rfl⟩, ?_⟩
   rintro _ rfl
   have hz := wN (neg := (negI s != negI t)) rq
   refine ⟨fun h => by simp [hz] at h, fun _ => ⟨(false, numI t - numI s % numI t), ⟨eV _ _, big rm⟩, ⟨_, rfl⟩, ?_⟩⟩
   rintro _ rfl
   exact RetR.scal hq rfl (by simp [resV])
  ·have hc : ¬ (negI s = true ∧ 0 < numI s % numI t) := by
    rintro ⟨g1, g2⟩
    rw [g1, decide_eq_true g2] at hc
    cases hc
   have eQ : dmQ s t = numI s / numI t := if_neg hc
   have eM : dmM s t = numI s % numI t := if_neg hc
   rw [eQ, eM] at hq
   rw [eQ] at rq
   rw [eM] at rm
   refine ⟨(negI s != negI t, numI s / numI t), ⟨eV _ _, big rq⟩, ⟨_, rfl⟩, ?_⟩
   rintro _ rfl
   have hz := wN (neg := (negI s != negI t)) rq
   refine ⟨fun h => by simp [hz] at h, fun _ => ⟨(false, numI s % numI t), ⟨eV _ _, big rm⟩, ⟨_, rfl⟩, ?_⟩⟩
   rintro _ rfl
   exact RetR.scal hq rfl (by simp [resV])
 ·simp only [if_neg he]
  refine ⟨fun _ => ?_, fun h => (by simp [he] at h)⟩
  have e : dmI s t = ([], [], zp s t) := if_pos he
  rw [e] at hq
  exact RetR.scal hq rfl (by simp [resV])
def XC : Ctr := ctrP true (fun s : List UInt8 => [.str s]) (fun s => s.length < 2 ^ 62) (fun s r => r = if errR s = 0 then (numR s, denR s, 0) else ([], [], errR s)) (fun _ (r : List UInt8 × List UInt8 × Int) => (.tup [.str r.1, .str r.2.1, .int .i64 r.2.2], []))
noncomputable def GPa : Nat → Option Ctr := fun f => if f = 30 then some (ky) else if f = 51 then some (WX) else none
theorem U8 : ∀ g c, GPa g = some c → ze Try.prog g c := okIf wW (okIf Jk (zz))
theorem Xo : ze Try.prog 63 XC := by
 refine zr (fn := Try.f63) (c := Try.f63.body.getD .skip) rfl rfl rfl fun s hs O w0 Q hq => ?_
 replace hq := hq _ rfl
 refine zb.run hmix U8 [] 400 (T := .ex (fun (x : List UInt8) => eqL [AV.str s] [AV.str x] ∧ x.length < 4611686018427387904) fun n => .all (fun (r : Int) => r = errR n) fun n => .ite (!decide (n = 0)) (.leaf (.ret [.str (Array.toList #[]), .str (Array.toList #[]), .int .i64 n] [])) (.ex (fun (x : List UInt8) => eqL [AV.str s] [AV.str x] ∧ x.length < 4611686018427387904) fun n => .all (fun (r : List UInt8 × List UInt8 × Bool) => r = cutR n) fun n => .ite (!Prod.snd n.2) (.leaf (.ret [.str n.1, .str (Array.toList #[(49 : UInt8)]), .int .i64 0] [])) (.leaf (.ret [.str n.1, .str (n.2.1), .int .i64 0] [])))) (by kernel_rfl) ?_
 simp only [Tree.holds, zd]
 refine ⟨s, ⟨by simp, hs⟩, ⟨_, rfl⟩, ?_⟩
 rintro _ rfl
 refine ⟨fun h => ?_, fun h => ⟨s, ⟨by simp, hs⟩, ⟨_, rfl⟩, ?_⟩⟩
 ·have h : errR s ≠ 0 := by simpa using h
  rw [if_neg h] at hq
  exact RetR.scal hq rfl (by simp [resV])
 ·have h : errR s = 0 := by simpa using h
  rw [if_pos h] at hq
  rintro _ rfl
  refine ⟨fun g => ?_, fun g => ?_⟩
  ·have e : denR s = [49] := by unfold denR; rw [if_neg (by simpa using g)]
   rw [e] at hq
   exact RetR.scal hq rfl (by simp [resV, numR])
  ·have e : denR s = (cutR s).2.1 := by unfold denR; rw [if_pos (by simpa using g)]
   rw [e] at hq
   exact RetR.scal hq rfl (by simp [resV, numR])
def VD : Ctr := ctrP true (fun p : List UInt8 × List UInt8 => [.str p.1, .str p.2]) (fun p => p.1.length < 2 ^ 62 ∧ p.2.length < 2 ^ 62) (fun p r => r = j3 p.1 p.2) (fun _ r => (.tup [.str r.1, .int .i64 r.2], []))
noncomputable def GMk : Nat → Option Ctr := fun f => if f = 54 then some (gcdC) else if f = 87 then some (dmC) else none
theorem za9 : ∀ g c, GMk g = some c → ze Try.prog g c := okIf KN (okIf Kn (zz))
theorem YK : ze Try.prog 69 VD := by
 refine zr (fn := Try.f69) (c := Try.f69.body.getD .skip) rfl rfl rfl fun p hp O w0 Q hq => ?_
 obtain ⟨s, t⟩ := p
 obtain ⟨hs, ht⟩ := hp
 replace hq := hq _ rfl
 simp only at hs ht hq
 refine zb.run hmix za9 [] 400 (T := .ex (fun (x : List UInt8 × List UInt8) => eqL [AV.str s, AV.str t] [AV.str x.1, AV.str x.2] ∧ x.1.length < 4611686018427387904 ∧ x.2.length < 4611686018427387904) fun n => .all (fun (r : List UInt8 × Int) => r = gcdR n.1 n.2) fun n => .ite (!decide (n.2 = 0)) (.leaf (.ret [.str (Array.toList #[]), .int .i64 n.2] [])) (.ite (decide (t = Array.toList #[(48 : UInt8)])) (.leaf (.ret [.str (Array.toList #[]), .int .i64 16] [])) (.side ((0 : Int) ≤ 0 ∧ (0 : Int) < t.length) (.ite (decide ((↑(UInt8.toNat (List.getD t 0 (0 : UInt8))) : Int) = 45)) (.side (1 + n.1.length ≤ 9223372036854775807) (.ex (fun (x : List UInt8 × List UInt8) => eqL [AV.str s, AV.str (Array.toList #[(45 : UInt8)] ++ n.1)] [AV.str x.1, AV.str x.2] ∧ x.1.length < 4611686018427387904 ∧ x.2.length < 4611686018427387904) fun n_1 => .all (fun (r : List UInt8 × List UInt8 × Int) => r = dmI n_1.1 n_1.2) fun n_2 => .ex (fun (x : List UInt8 × List UInt8) => eqL [AV.str t, AV.str (Array.toList #[(45 : UInt8)] ++ n.1)] [AV.str x.1, AV.str x.2] ∧ x.1.length < 4611686018427387904 ∧ x.2.length < 4611686018427387904) fun n => .all (fun (r : List UInt8 × List UInt8 × Int) => r = dmI n.1 n.2) fun n => .ite (decide (n.1 = Array.toList #[(49 : UInt8)])) (.leaf (.ret [.str n_2.1, .int .i64 0] [])) (.side (n_2.1.length + 1 ≤ 9223372036854775807) (.side (List.length (n_2.1 ++ Array.toList #[(47 : UInt8)]) + n.1.length ≤ 9223372036854775807) (.leaf (.ret [.str (n_2.1 ++ Array.toList #[(47 : UInt8)] ++ n.1), .int .i64 0] [])))))) (.ex (fun (x : List UInt8 × List UInt8) => eqL [AV.str s, AV.str n.1] [AV.str x.1, AV.str x.2] ∧ x.1.length < 4611686018427387904 ∧ x.2.length < 4611686018427387904) fun n_1 => .all (fun (r : List UInt8 × List UInt8 × Int) => r = dmI n_1.1 n_1.2) fun n_2 => .ex (fun (x : List UInt8 × List UInt8) => eqL [AV.str t, AV.str n.1] [AV.str x.1, AV.str x.2] ∧ x.1.length < 4611686018427387904 ∧ x.2.length < 4611686018427387904) fun n => .all (fun (r : List UInt8 × List UInt8 × Int) => r = dmI n.1 n.2) fun n => .ite (decide (n.1 = Array.toList #[(49 : UInt8)])) (.leaf (.ret [.str n_2.1, .int .i64 0] [])) (.side (n_2.1.length + 1 ≤ 9223372036854775807) (.side (List.length (n_2.1 ++ Array.toList #[(47 : UInt8)]) + n.1.length ≤ 9223372036854775807) (.leaf (.ret [.str (n_2.1 ++ Array.toList #[(47 : UInt8)] ++ n.1), .int .i64 0] []))))))))) (by kernel_rfl) ?_
 simp only [Tree.holds, zd, inR, lo, hi, Int.toNat_natCast]
 refine ⟨(s, t), ⟨by simp, by omega, by omega⟩, ⟨_, rfl⟩, ?_⟩
 rintro _ rfl
 by_cases he : zp s t = 0
 ·obtain ⟨e1, e2⟩ := zl.1 he
  have eg : gcdR s t = wr false (Nat.gcd (numI s) (numI t)) := if_pos he
  by_cases h0 : numI t = 0
  ·have ht0 : t = [48] := (vR e2).2 h0
   have hg0 : Nat.gcd (numI s) (numI t) = numI s := by rw [h0, Nat.gcd_zero_right]
   have hz : (gcdR s t).2 = 0 := by rw [eg, hg0]; exact wN (ja e1)
   have e : j3 s t = ([], 16) := by rw [j3, if_neg (by rw [he]; decide), if_pos h0]
   rw [e] at hq
   refine ⟨fun h => (by simp [hz] at h), fun _ => ⟨fun _ => RetR.scal hq rfl (by simp [resV]), fun h => (by simp [ht0] at h)⟩⟩
  ·obtain ⟨g0, gr⟩ := Jm (s := s) e2 h0
   have hz : (gcdR s t).2 = 0 := by rw [eg]; exact wN gr
   have ht0 : t ≠ [48] := fun h => h0 ((vR e2).1 h)
   have htn : t ≠ [] := by rintro rfl; simp [JB] at e2
   have hneg := Z4 htn
   have e : j3 s t = (V0 (negI s != negI t) (numI s) (numI t), 0) := by rw [j3, if_neg (by rw [he]; decide), if_neg h0]
   rw [e, V0] at hq
   have ds : Nat.gcd (numI s) (numI t) ∣ numI s := Nat.gcd_dvd_left _ _
   have dt : Nat.gcd (numI s) (numI t) ∣ numI t := Nat.gcd_dvd_right _ _
   generalize hgg : Nat.gcd (numI s) (numI t) = g at *
   have rt := room_le (Nat.div_le_self (numI t) g) (ja e2)
   have l1 := vg false g
   have l2 := vg true g
   have fin : ∀ b : Bool, b = negI t → ∀ (z w : List UInt8 × List UInt8 × Int), z = dmI s (wr b g).1 → w = dmI t (wr b g).1 →
     (decide (w.1 = [49]) = true → RetR VD 0 Q [.str z.1, .int .i64 0] []) ∧ (decide (w.1 = [49]) = false → z.1.length + 1 ≤ 9223372036854775807 ∧ (z.1.length + 1 ≤ 9223372036854775807 → (z.1 ++ [47]).length + w.1.length ≤ 9223372036854775807 ∧ ((z.1 ++ [47]).length + w.1.length ≤ 9223372036854775807 → RetR VD 0 Q [.str (z.1 ++ [47] ++ w.1), .int .i64 0] []))) := by
    rintro b rfl z w rfl rfl
    rw [JJ e1 g0 gr ds, JJ e2 g0 gr dt]
    simp only
    have : (negI t != negI t) = false := by simp
    rw [this]
    have k1 := vg (negI s != negI t) (numI s / g)
    have k2 := vg false (numI t / g)
    refine ⟨fun h => ?_, fun h => ⟨by omega, fun _ => ⟨by simp; omega, fun _ => ?_⟩⟩⟩
    ·have h1 := (W0 rt).1 (of_decide_eq_true h)
     rw [if_pos h1] at hq
     exact RetR.scal hq rfl (by simp [resV])
    ·have h1 : ¬ numI t / g = 1 := fun h1 => of_decide_eq_false h ((W0 rt).2 h1)
     rw [if_neg h1] at hq
     exact RetR.scal hq rfl (by simp [resV])
   rw [eg] at hz ⊢
   refine ⟨fun h => (by simp [hz] at h), fun _ => ⟨fun h => absurd (of_decide_eq_true h) ht0, fun _ => ⟨⟨by omega, by have := List.length_pos_iff.2 htn; omega⟩, fun _ => ⟨fun hb => ⟨by omega, fun _ => ?_⟩, fun hb => ?_⟩⟩⟩⟩
   ·have hn : negI t = true := by
     rw [hneg, decide_eq_true_eq]
     exact V4 (of_decide_eq_true hb)
    rw [Y1 g0 gr]
    refine ⟨(s, (wr true g).1), ⟨by simp, by show s.length < _; omega, by show (wr true g).1.length < _; omega⟩, ⟨_, rfl⟩, ?_⟩
    intro z hz
    refine ⟨(t, (wr true g).1), ⟨by simp, by show t.length < _; omega, by show (wr true g).1.length < _; omega⟩, ⟨_, rfl⟩, ?_⟩
    intro w hw
    exact fin true hn.symm z w hz hw
   ·have hn : negI t = false := by
     rw [hneg, decide_eq_false_iff_not]
     intro h
     apply of_decide_eq_false hb
     rw [h]; rfl
    refine ⟨(s, (wr false g).1), ⟨by simp, by show s.length < _; omega, by show (wr false g).1.length < _; omega⟩, ⟨_, rfl⟩, ?_⟩
    intro z hz
    refine ⟨(t, (wr false g).1), ⟨by simp, by show t.length < _; omega, by show (wr false g).1.length < _; omega⟩, ⟨_, rfl⟩, ?_⟩
    intro w hw
    exact fin false hn.symm z w hz hw
 ·have eg : gcdR s t = ([], zp s t) := if_neg he
  have e : j3 s t = ([], zp s t) := if_pos he
  rw [e] at hq
  rw [eg]
  exact ⟨fun _ => RetR.scal hq rfl (by simp [resV]), fun h => by simp [he] at h⟩
end Go.Proofs.Try
end

/- Nil slices of a result, handed back as own empty ones. -/
section
namespace Go.Sx
variable [Stat]
section
variable {own own' O : Nat → Prop} {w w' : World} {σ σ' : List SE} {P : Program} {fn : Func}
def upA0 (d k : Nat) : AV → AV → Prop
 | .nils, .osl i _ off n => (d ≤ i ∧ i < d + k) ∧ off = 0 ∧ n = 0
 | a, b => a = b
def upL0 (d k : Nat) : List AV → List AV → Prop
 | [], [] => True
 | a :: l, b :: m => upA0 d k a b ∧ upL0 d k l m
 | _, _ => False
def upA1 (d k : Nat) : AV → AV → Prop
 | .agg l, .agg m => upL0 d k l m
 | a, b => upA0 d k a b
def upL1 (d k : Nat) : List AV → List AV → Prop
 | [], [] => True
 | a :: l, b :: m => upA1 d k a b ∧ upL1 d k l m
 | _, _ => False
def upA2 (d k : Nat) : AV → AV → Prop
 | .tup l, .tup m => upL1 d k l m
 | a, b => upA1 d k a b
def j2 (k : Nat) : List SE := List.replicate k ⟨none, 0⟩
theorem yv.mono {g : Nat} {vals : Array Value} {R R' : Value → World → Prop} (hR : ∀ v w', R v w' → R' v w') (h : yv P g vals w R) : yv P g vals w R' := by
 rcases h with ⟨h1, h2⟩ | ⟨v, w', h1, h2⟩
 ·exact .inl ⟨h1, h2.mono fun e w' ⟨v, he, hv⟩ => ⟨v, he, hR v w' hv⟩⟩
 ·exact .inr ⟨v, w', h1, hR v w' h2⟩
theorem q7 {k i : Nat} {e : SE} (h : (σ ++ j2 k)[i]? = some e) : (i < σ.length ∧ σ[i]? = some e) ∨ (σ.length ≤ i ∧ e = ⟨none, 0⟩) := by
 rw [List.getElem?_append] at h
 split at h
 ·rename_i hi; exact .inl ⟨hi, h⟩
 ·rename_i hi
  right
  refine ⟨by omega, ?_⟩
  simp only [j2, List.getElem?_replicate] at h
  split at h
  ·cases h; rfl
  ·cases h
theorem u6 {k b : Nat} (h : Mine (σ ++ j2 k) b) : Mine σ b := by
 obtain ⟨e, he, ad, h1, h2⟩ := h
 rcases List.mem_append.1 he with he | he
 ·exact ⟨e, he, ad, h1, h2⟩
 ·have := List.eq_of_mem_replicate he
  subst this
  cases h1
theorem yd {k b : Nat} (h : Own O (σ ++ j2 k) b) : Own O σ b := by
 rcases h with h | h
 ·exact .inl h
 ·exact .inr (u6 h)
theorem w9 (K : List Nat) (w : World) (σ : List SE) (k : Nat) : Hold K w σ w (σ ++ j2 k) := fun i e he _ => by
 have hi := (List.getElem?_eq_some_iff.1 he).1
 exact ⟨by rw [List.getElem?_append_left hi]; exact he, fun ad _ cs el h => ⟨cs, el, h, rfl⟩⟩
theorem ZP {k : Nat} (hx : Ext own w own' w) {a b : AV} {v : Value} (hu : upA0 σ.length k a b) (ha : Rep own w a σ v) : Rep own' w b (σ ++ j2 k) v := by
 unfold upA0 at hu
 split at hu
 ·obtain ⟨⟨h1, h2⟩, rfl, rfl⟩ := hu
  rename_i i sz _ _
  simp only [Rep] at ha ⊢
  refine ⟨⟨none, 0⟩, ?_, by simp, none, 0, ha, Nat.le_refl _, .inl rfl⟩
  rw [List.getElem?_append_right h1, j2, List.getElem?_replicate, if_pos (by omega)]
 ·subst hu
  exact qt (K := []) hx (w9 [] w σ k) _ _ (jJ _) ha
theorem ua {k : Nat} (hx : Ext own w own' w) : ∀ {l m : List AV} {vs : List Value}, upL0 σ.length k l m → RepL own w l σ vs → RepL own' w m (σ ++ j2 k) vs
 | [], [], vs, _, h => by simpa [RepL] using h
 | a :: l, b :: m, vs, hl, h => by
  simp only [RepL] at h ⊢
  obtain ⟨v, r, hv, h1, h2⟩ := h
  exact ⟨v, r, hv, ZP hx hl.1 h1, ua hx hl.2 h2⟩
 | [], _ :: _, _, hl, _ => hl.elim
 | _ :: _, [], _, hl, _ => hl.elim
theorem Zq {k : Nat} (hx : Ext own w own' w) {a b : AV} {v : Value} (hu : upA1 σ.length k a b) (ha : Rep own w a σ v) : Rep own' w b (σ ++ j2 k) v := by
 unfold upA1 at hu
 split at hu
 ·simp only [Rep] at ha ⊢
  obtain ⟨vs, hv, hr⟩ := ha
  exact ⟨vs, hv, ua hx hu hr⟩
 ·exact ZP hx hu ha
theorem kO {k : Nat} (hx : Ext own w own' w) : ∀ {l m : List AV} {vs : List Value}, upL1 σ.length k l m → RepL own w l σ vs → RepL own' w m (σ ++ j2 k) vs
 | [], [], vs, _, h => by simpa [RepL] using h
 | a :: l, b :: m, vs, hl, h => by
  simp only [RepL] at h ⊢
  obtain ⟨v, r, hv, h1, h2⟩ := h
  exact ⟨v, r, hv, Zq hx hl.1 h1, kO hx hl.2 h2⟩
 | [], _ :: _, _, hl, _ => hl.elim
 | _ :: _, [], _, hl, _ => hl.elim
theorem Z3 {k : Nat} (hx : Ext own w own' w) {a b : AV} {v : Value} (hu : upA2 σ.length k a b) (ha : Rep own w a σ v) : Rep own' w b (σ ++ j2 k) v := by
 unfold upA2 at hu
 split at hu
 ·simp only [Rep] at ha ⊢
  obtain ⟨vs, hv, hr⟩ := ha
  exact ⟨vs, hv, kO hx hu hr⟩
 ·exact Zq hx hu ha
def vB (szs : List (Nat × (Nat → Nat → AV))) : Heap := szs.map fun s => .arr 0 s.1 s.2
theorem Ui (hx : Ext own w own' w) {hs : Heap} (hh : HRep own w σ hs) (szs : List (Nat × (Nat → Nat → AV))) : HRep own' w (σ ++ j2 szs.length) (hs ++ vB szs) := by
 have hl := hh.len
 refine ⟨by simp [j2, vB, hl], fun i j e f a b he hf ha hb hij => ?_, fun i e a he ha => ?_, fun i e b he hb => ?_⟩
 ·rcases q7 he with ⟨_, he⟩ | ⟨_, rfl⟩
  ·rcases q7 hf with ⟨_, hf⟩ | ⟨_, rfl⟩
   ·exact hh.inj i j e f a b he hf ha hb hij
   ·cases hb
  ·cases ha
 ·rcases q7 he with ⟨_, he⟩ | ⟨_, rfl⟩
  ·exact hh.lt i e a he ha
  ·cases ha
 ·rcases q7 he with ⟨hi, he⟩ | ⟨hi, rfl⟩
  ·rw [List.getElem?_append_left (by omega)] at hb
   have := qz (K := []) hx (w9 [] w σ szs.length) (hh.blk i e b he hb) (fun _ _ => rfl)
   rwa [qF] at this
  ·rw [List.getElem?_append_right (by omega)] at hb
   simp only [vB, List.getElem?_map] at hb
   cases hz : szs[i - hs.length]? with
   | none => simp [hz] at hb
   | some s =>
    simp only [hz, Option.map_some, Option.some.injEq] at hb
    subst hb
    exact ⟨rfl, .inl rfl⟩
def upQ (Q : AV × Heap → Prop) (p : AV × Heap) : Prop := Q p ∨ ∃ (r : AV) (szs : List (Nat × (Nat → Nat → AV))), upA2 p.2.length szs.length p.1 r ∧ Q (r, p.2 ++ vB szs)
theorem ji.up {g : Nat} {c : Ctr} {args : List AV} {hc : Heap} {Q : AV × Heap → Prop} (h : ji P g c args hc (upQ Q)) : ji P g c args hc Q := by
 intro O w σ vals hg hh hr
 refine yv.mono ?_ (h O w σ vals hg hh hr)
 rintro v w' ⟨r, hs, σ', hq, h1, h2, h3, h4, h5, h6⟩
 rcases hq with hq | ⟨r', szs, hu, hq⟩
 ·exact ⟨r, hs, σ', hq, h1, h2, h3, h4, h5, h6⟩
 ·have hx : Ext (fun b => Own O σ' b ∨ (c.fresh = true ∧ b < w.heap.size)) w' (fun b => Own O (σ' ++ j2 szs.length) b ∨ (c.fresh = true ∧ b < w.heap.size)) w' :=
   ⟨rfl, rfl, rfl, Nat.le_refl _, fun _ _ _ => rfl, fun b hb => .inl (hb.imp yd id)⟩
  have hl : hs.length = σ'.length := h2.len.symm
  refine ⟨r', hs ++ vB szs, σ' ++ j2 szs.length, hq, Z3 hx (by rw [← hl]; exact hu) h1, Ui hx h2 szs, ⟨h3.old, fun i e ad he had => ?_, h3.stat.own fun b hb => yd hb⟩, by simp; omega, h5.JT (w9 [] w' σ' _), ?_⟩
  ·rcases q7 he with ⟨_, he⟩ | ⟨_, rfl⟩
   ·exact h3.dis i e ad he had
   ·cases had
  ·exact ⟨h6.os, h6.tape, h6.output, h6.size, h6.keep, fun b hb => h6.grow b (u6 hb)⟩
theorem QR {X R : Type} {fresh : Bool} {inp : X → List AV} {pre : X → Prop} {post : X → R → Prop} {out : X → R → AV × Heap} {g : Nat} {c : Code} (hf : P.funcs[g]? = some fn) (hb : fn.body = some c) (hn : (fn.name == "runtime.NumGoroutine") = false)
  (H : ∀ x, pre x → ∀ (O : Nat → Prop) (w0 : World) (Q : AV × Heap → Prop), (∀ r, post x r → Q (out x r)) →
   zb P fn O 0 w0 [] (fun _ _ _ => False) (RetR (ctrP fresh inp pre post out) 0 (upQ Q)) [.code c] (entry fn (inp x))) : ze P g (ctrP fresh inp pre post out) := by
 intro args hc Q hq _
 simp only [ctrP] at hq
 split at hq
 ·obtain ⟨x, ⟨h1, h4⟩, h5, h6⟩ := hq
  refine ji.le h1 (ji.up (fn_k hf hb hn (fun h => rfl) fun O w0 σ0 hl => ?_))
  have h0 : σ0 = [] := List.length_eq_zero_iff.1 (by simpa using hl)
  subst h0
  exact H x h4 O w0 Q h6
 ·exact hq.elim
def upKV (d k : Nat) : KV → KV → Prop
 | [], [] => True
 | (i, a) :: l, (j, b) :: m => i = j ∧ upA2 d k a b ∧ upKV d k l m
 | _, _ => False
def upB (d k : Nat) : Blk → Blk → Prop
 | .box l, .box m => upL1 d k l m
 | a, b => a = b
def upH (d k : Nat) : Heap → Heap → Prop
 | [], [] => True
 | b :: l, c :: m => upB d k b c ∧ upH d k l m
 | _, _ => False
theorem Zv {d k : Nat} : ∀ {l m : KV} (t : Nat), upKV d k l m → upA2 d k (look l t) (look m t)
 | [], [], t, _ => by simp [look, upA2, upA1, upA0]
 | (i, a) :: l, (j, b) :: m, t, h => by
  obtain ⟨rfl, h1, h2⟩ := h
  simp only [look]
  split
  ·exact h1
  ·exact Zv t h2
 | [], _ :: _, _, h => h.elim
 | _ :: _, [], _, h => h.elim
theorem Vm {d k : Nat} : ∀ {l m : Heap}, upH d k l m → l.length = m.length
 | [], [], _ => rfl
 | _ :: l, _ :: m, h => by simp [Vm h.2]
 | [], _ :: _, h => h.elim
 | _ :: _, [], h => h.elim
theorem VR {d k : Nat} : ∀ {l m : Heap} {i : Nat} {b' : Blk}, upH d k l m → m[i]? = some b' → ∃ b, l[i]? = some b ∧ upB d k b b'
 | b :: l, c :: m, 0, b', h, h1 => by simp at h1; subst h1; exact ⟨b, rfl, h.1⟩
 | b :: l, c :: m, i + 1, b', h, h1 => by simpa using VR h.2 (by simpa using h1)
 | [], [], _, _, _, h1 => by simp at h1
 | [], _ :: _, _, _, h, _ => h.elim
 | _ :: _, [], _, _, h, _ => h.elim
theorem Ky {k : Nat} (hx : Ext own w own' w) {e : SE} {b b' : Blk} (hu : upB σ.length k b b') (hb : BRep own w σ e b) : BRep own' w (σ ++ j2 k) e b' := by
 unfold upB at hu
 split at hu
 ·simp only [BRep] at hb ⊢
  obtain ⟨ad, vs, el, h1, h2, h3, h4⟩ := hb
  exact ⟨ad, vs, el, h1, h2, h3, kO hx hu h4⟩
 ·subst hu
  have := qz (K := []) hx (w9 [] w σ k) hb (fun _ _ => rfl)
  rwa [qF] at this
variable {pin : Nat} {w0 : World} {σ0 : List SE} {a : Act}
theorem up_mod {kv kv2 : KV} {h h2 : Heap} {n : Nat} (hm : Mod O pin w0 σ0 w σ (mk n kv h) a) {szs : List (Nat × (Nat → Nat → AV))} (hkv : upKV h.length szs.length kv kv2) (hh2 : upH h.length szs.length h h2) (hno : (pk n kv).all qE = true) (hno2 : (pk n kv2).all qE = true) : Mod O pin w0 σ0 w (σ ++ j2 szs.length) (mk n kv2 (h2 ++ vB szs)) a := by
 have hx : Ext (Own O σ) w (Own O (σ ++ j2 szs.length)) w := ⟨rfl, rfl, rfl, Nat.le_refl _, fun _ _ _ => rfl, fun b hb => .inl (yd hb)⟩
 have hl : h.length = σ.length := hm.hp.len.symm
 rw [hl] at hkv hh2
 have hl2 := Vm hh2
 refine ⟨⟨hm.good.old, fun i e ad he had => ?_, hm.good.stat.ext hx⟩, ?_, by simp [hm.size, mk, pk], fun u => ?_, hm.df.ext hx, hm.since.trans ⟨hx, fun _ _ _ => rfl, wH.of (w9 [] w σ _) (by simp)⟩, hm.lim⟩
 ·rcases q7 he with ⟨_, he⟩ | ⟨_, rfl⟩
  ·exact hm.good.dis i e ad he had
  ·cases had
 ·have hh := hm.hp
  refine ⟨by simp [mk, j2, vB, ← hl2, hl], fun i j e f x y he hf ha hb hij => ?_, fun i e x he ha => ?_, fun i e b he hb => ?_⟩
  ·rcases q7 he with ⟨_, he⟩ | ⟨_, rfl⟩
   ·rcases q7 hf with ⟨_, hf⟩ | ⟨_, rfl⟩
    ·exact hh.inj i j e f x y he hf ha hb hij
    ·cases hb
   ·cases ha
  ·rcases q7 he with ⟨_, he⟩ | ⟨_, rfl⟩
   ·exact hh.lt i e x he ha
   ·cases ha
  ·simp only [mk] at hb
   rcases q7 he with ⟨hi, he⟩ | ⟨hi, rfl⟩
   ·rw [List.getElem?_append_left (by omega)] at hb
    obtain ⟨b0, h1, h3⟩ := VR hh2 hb
    exact Ky hx h3 (hh.blk i e b0 he h1)
   ·rw [List.getElem?_append_right (by omega)] at hb
    simp only [vB, List.getElem?_map] at hb
    cases hz : szs[i - h2.length]? with
    | none => simp [hz] at hb
    | some s =>
     simp only [hz, Option.map_some, Option.some.injEq] at hb
     subst hb
     exact ⟨rfl, .inl rfl⟩
 ·have hu := hm.tm u
  have key : ∀ (kv : KV) (h : Heap), (pk n kv).all qE = true → qE ((mk n kv h).tmps.getD u .undef) = true := by
   intro kv h hno
   by_cases hlt : u < (mk n kv h).tmps.length
   ·simp only [List.getD, List.getElem?_eq_getElem hlt, Option.getD_some]
    exact List.all_eq_true.1 hno _ (List.getElem_mem hlt)
   ·simp only [List.getD]
    rw [List.getElem?_eq_none (by omega)]; rfl
  have n1 := key kv h hno
  have n2 := key kv2 (h2 ++ vB szs) hno2
  have hr : Rep (Own O σ) w ((mk n kv h).tmps.getD u .undef) σ (a.tmps.getD u undef) := by
   generalize (mk n kv h).tmps.getD u .undef = x at hu n1
   cases x with
   | opt _ _ _ => simp [qE] at n1
   | _ => simpa only [TRep] using hu
  have hup : upA2 σ.length szs.length ((mk n kv h).tmps.getD u .undef) ((mk n kv2 (h2 ++ vB szs)).tmps.getD u .undef) := by
   by_cases hlt : u < n
   ·simp only [mk]
    rw [wF hlt, wF hlt]
    exact Zv u hkv
   ·simp [mk, pk, List.getD, hlt, upA2, upA1, upA0]
  have := Z3 hx hup hr
  generalize (mk n kv2 (h2 ++ vB szs)).tmps.getD u .undef = y at this n2
  cases y with
  | opt _ _ _ => simp [qE] at n2
  | _ => simpa only [TRep] using this
theorem zb.up {M : Option Nat} {Hs : Nat → KV → Heap → Prop} {R : List AV → Heap → Prop} {k : List Item} {kv : KV} {h : Heap} (szs : List (Nat × (Nat → Nat → AV))) (kv2 : KV) (h2 : Heap) (hkv : upKV h.length szs.length kv kv2) (hh2 : upH h.length szs.length h h2) (hno : (pk fn.ntmps kv).all qE = true) (hno2 : (pk fn.ntmps kv2).all qE = true)
  (H : qa M P fn O pin w0 σ0 Hs R k (mk fn.ntmps kv2 (h2 ++ vB szs))) : qa M P fn O pin w0 σ0 Hs R k (mk fn.ntmps kv h) :=
 fun w σ a hm => H w _ a (up_mod hm hkv hh2 hno hno2)
theorem RetR.outs {ctr : Ctr} {Q : AV × Heap → Prop} {rs : List AV} {h : Heap} {r : AV} {hs : Heap} (L : List Nat) (hnd : jE L = true) (hlt : (L.all fun i => decide (i < h.length)) = true) (hq : Q (r, hs)) (hn : ctr.fresh = true → new2 h L (resV rs) ∧ ∀ i ∈ L, newB (h.getD i .dead))
  (he : eqA2 (exp2 h L (resV rs)) r) (hb : eqH (expH h L) hs) (hl : hs.length = L.length) : RetR ctr 0 Q rs h :=
 ⟨L, hnd, fun i hi => by have := List.all_eq_true.1 hlt i hi; simpa using this, by simp, hn, r, hs, qb he, hb, hl, hq⟩
theorem RetR.keep {ctr : Ctr} {m : Nat} {Q : AV × Heap → Prop} {rs : List AV} {h : Heap} {r : AV} {hs : Heap} (L : List Nat) (hnd : jE L = true) (hlt : (L.all fun i => decide (i < h.length)) = true) (hj : ∀ j, j < m → L[j]? = some j) (hf : ctr.fresh = false) (hq : Q (r, hs))
  (he : eqA2 (exp2 h L (resV rs)) r) (hb : eqH (expH h L) hs) (hl : hs.length = L.length) : RetR ctr m Q rs h :=
 ⟨L, hnd, fun i hi => by have := List.all_eq_true.1 hlt i hi; simpa using this, hj, (fun hh => absurd hh (by rw [hf]; decide)), r, hs, qb he, hb, hl, hq⟩
end
end Go.Sx
end

/- Rationals: pairs. -/
section
set_option maxRecDepth 100000
open Go Go.Sx Go.Proofs Go.Nov
namespace Go.Proofs.Try
attribute [local simp] eqKV eqA eqA0 eqH eqB eqL eqL0
noncomputable def K43 : List Go.Sx.Item := [.code (Try.f43.body.getD .skip)]
structure Pr where
 n : List UInt8
 m : List UInt8
 d : List UInt8
 c : List UInt8
 e : Int
def Pr.box (p : Pr) : Blk := .box [.str p.n, .str p.m, .str p.d, .str p.c, .int .i64 p.e]
def Pr.err (p : Pr) (e : Int) : Pr := ⟨p.n, p.m, p.d, p.c, e⟩
inductive QOp where
 | add | sub | mul
def QOp.fn : QOp → Nat
 | .add => 46
 | .sub => 48
 | .mul => 45
def QOp.op : QOp → List UInt8 → List UInt8 → List UInt8 × Int
 | .add => addI
 | .sub => subI
 | .mul => mulI
def qN (a b : List UInt8) : Pr := if errR a ≠ 0 then ⟨[], [], [], [], errR a⟩ else if errR b ≠ 0 then ⟨numR a, [], denR a, [], errR b⟩ else ⟨numR a, numR b, denR a, denR b, 0⟩
def WW : Ctr := ctrT false false (fun p : List UInt8 × List UInt8 => [.str p.1, .str p.2]) (fun _ => []) (fun p => p.1.length < 2 ^ 62 ∧ p.2.length < 2 ^ 62) (fun p r => r = qN p.1 p.2) (fun _ (r : Pr) => (.ptr 0 0, [r.box]))
def WC : Ctr := ctrT false false (fun p : Pr × QOp => [.ptr 0 0, .fn p.2.fn [] []]) (fun p => [p.1.box]) (fun _ => True) (fun _ (_ : Unit) => True) (fun p _ => (.fn 64 [] [.ptr 1 0, .ptr 2 0], [p.1.box, .box [.ptr 0 0], .box [.fn p.2.fn [] []]]))
structure KX where
 p : Pr
 o : QOp
 x : List UInt8
 y : List UInt8
def Qg : Ctr := ctrT false false (fun k : KX => [.str k.x, .str k.y, .ptr 0 0, .ptr 2 0]) (fun k => [.box [.ptr 1 0], k.p.box, .box [.fn k.o.fn [] []]]) (fun k => k.x.length < 2 ^ 62 ∧ k.y.length < 2 ^ 62) (fun k r => r = if k.p.e ≠ 0 then ([], k.p.e) else k.o.op k.x k.y)
 (fun k (r : List UInt8 × Int) => (.str r.1, [.box [.ptr 1 0], (k.p.err r.2).box, .box [.fn k.o.fn [] []]]))
def Vq : Ctr := ctrT false false (fun k : Pr × List UInt8 × List UInt8 => [.ptr 0 0, .str k.2.1, .str k.2.2]) (fun k => [k.1.box]) (fun k => k.2.1.length < 2 ^ 62 ∧ k.2.2.length < 2 ^ 62) (fun k r => r = if k.1.e ≠ 0 then ([], k.1.e) else j3 k.2.1 k.2.2)
 (fun k (r : List UInt8 × Int) => (.tup [.str r.1, .int .i64 r.2], [k.1.box]))
theorem JO : ze Try.prog 44 WC := by
 refine jw (fn := Try.f44) (c := Try.f44.body.getD .skip) rfl rfl rfl (fun h => by cases h) fun p hp O w0 σ0 Q hl0 hq => ?_
 obtain ⟨p, o⟩ := p
 replace hq := hq () trivial
 refine zb.run hmix zG [] 400 (T := .leaf (.ret [.fn 64 [] [.ptr 1 0, .ptr 2 0]] [.box [.str p.n, .str p.m, .str p.d, .str p.c, .int .i64 p.e], .box [.ptr 0 0], .box [.fn (QOp.fn o) [] []]])) (by kernel_rfl) ?_
 simp only [Tree.holds, zd]
 refine RetR.keep [0, 1, 2] rfl rfl (by show ∀ j, j < 1 → _; decide) rfl hq ?_ ?_ rfl
 ·rfl
 ·exact ⟨⟨rfl, rfl, rfl, rfl, ⟨rfl, rfl⟩, trivial⟩, ⟨⟨rfl, rfl⟩, trivial⟩, ⟨rfl, trivial⟩, trivial⟩
noncomputable def GK1 : Nat → Option Ctr := fun f => if f = 46 then some (addC) else if f = 48 then some (subC) else if f = 45 then some (mulC) else none
theorem W7 : ∀ g c, GK1 g = some c → ze Try.prog g c := okIf UF (okIf UT (okIf za6 (zz)))
theorem Jg : ze Try.prog 64 Qg := by
 refine jw (fn := Try.f64) (c := Try.f64.body.getD .skip) rfl rfl rfl (fun h => by cases h) fun k hk O w0 σ0 Q hl0 hq => ?_
 obtain ⟨⟨n, m, d, c, e⟩, o, x, y⟩ := k
 obtain ⟨h1, h2⟩ := hk
 replace hq := hq _ rfl
 simp only at h1 h2 hq
 have fin : ∀ r : List UInt8 × Int, (if e ≠ 0 then ([], e) else o.op x y) = r → RetR Qg 3 Q [.str r.1] [.box [.ptr 1 0], .box [.str n, .str m, .str d, .str c, .int .i64 r.2], .box [.fn o.fn [] []]] := by
  rintro r rfl
  refine RetR.keep [0, 1, 2] rfl rfl (by show ∀ j, j < 3 → _; decide) rfl hq ?_ ?_ rfl
  ·rfl
  ·exact ⟨⟨⟨rfl, rfl⟩, trivial⟩, ⟨rfl, rfl, rfl, rfl, ⟨rfl, rfl⟩, trivial⟩, ⟨rfl, trivial⟩, trivial⟩
 cases o with
 | add =>
  refine zb.run hmix W7 [] 400 (T := .ite (!decide (e = 0)) (.leaf (.ret [.str (Array.toList #[])] [.box [.ptr 1 0], .box [.str n, .str m, .str d, .str c, .int .i64 e], .box [.fn 46 [] []]])) (.ex (fun (x_1 : List UInt8 × List UInt8) => eqL [AV.str x, AV.str y] [AV.str x_1.1, AV.str x_1.2] ∧ x_1.1.length < 4611686018427387904 ∧ x_1.2.length < 4611686018427387904) fun n_1 => .all (fun (r : List UInt8 × Int) => r = addI n_1.1 n_1.2) fun n_2 => .leaf (.ret [.str n_2.1] [.box [.ptr 1 0], .box [.str n, .str m, .str d, .str c, .int .i64 n_2.2], .box [.fn 46 [] []]]))) (by kernel_rfl) ?_
  simp only [Tree.holds, zd]
  refine ⟨fun h => ?_, fun h => ⟨(x, y), ⟨by simp, h1, h2⟩, ⟨_, rfl⟩, ?_⟩⟩
  ·have h : e ≠ 0 := by simpa using h
   exact fin ([], e) (if_pos h)
  ·have h : e = 0 := by simpa using h
   rintro _ rfl
   exact fin (addI x y) (if_neg (by simp [h]))
 | sub =>
  refine zb.run hmix W7 [] 400 (T := .ite (!decide (e = 0)) (.leaf (.ret [.str (Array.toList #[])] [.box [.ptr 1 0], .box [.str n, .str m, .str d, .str c, .int .i64 e], .box [.fn 48 [] []]])) (.ex (fun (x_1 : List UInt8 × List UInt8) => eqL [AV.str x, AV.str y] [AV.str x_1.1, AV.str x_1.2] ∧ x_1.1.length < 4611686018427387904 ∧ x_1.2.length < 4611686018427387904) fun n_1 => .all (fun (r : List UInt8 × Int) => r = subI n_1.1 n_1.2) fun n_2 => .leaf (.ret [.str n_2.1] [.box [.ptr 1 0], .box [.str n, .str m, .str d, .str c, .int .i64 n_2.2], .box [.fn 48 [] []]]))) (by kernel_rfl) ?_
  simp only [Tree.holds, zd]
  refine ⟨fun h => ?_, fun h => ⟨(x, y), ⟨by simp, h1, h2⟩, ⟨_, rfl⟩, ?_⟩⟩
  ·have h : e ≠ 0 := by simpa using h
   exact fin ([], e) (if_pos h)
  ·have h : e = 0 := by simpa using h
   rintro _ rfl
   exact fin (subI x y) (if_neg (by simp [h]))
 | mul =>
  refine zb.run hmix W7 [] 400 (T := .ite (!decide (e = 0)) (.leaf (.ret [.str (Array.toList #[])] [.box [.ptr 1 0], .box [.str n, .str m, .str d, .str c, .int .i64 e], .box [.fn 45 [] []]])) (.ex (fun (x_1 : List UInt8 × List UInt8) => eqL [AV.str x, AV.str y] [AV.str x_1.1, AV.str x_1.2] ∧ x_1.1.length < 4611686018427387904 ∧ x_1.2.length < 4611686018427387904) fun n_1 => .all (fun (r : List UInt8 × Int) => r = mulI n_1.1 n_1.2) fun n_2 => .leaf (.ret [.str n_2.1] [.box [.ptr 1 0], .box [.str n, .str m, .str d, .str c, .int .i64 n_2.2], .box [.fn 45 [] []]]))) (by kernel_rfl) ?_
  simp only [Tree.holds, zd]
  refine ⟨fun h => ?_, fun h => ⟨(x, y), ⟨by simp, h1, h2⟩, ⟨_, rfl⟩, ?_⟩⟩
  ·have h : e ≠ 0 := by simpa using h
   exact fin ([], e) (if_pos h)
  ·have h : e = 0 := by simpa using h
   rintro _ rfl
   exact fin (mulI x y) (if_neg (by simp [h]))
noncomputable def GMd : Nat → Option Ctr := fun f => if f = 69 then some (VD) else none
theorem zag : ∀ g c, GMd g = some c → ze Try.prog g c := okIf YK (zz)
theorem VB : ze Try.prog 47 Vq := by
 refine jw (fn := Try.f47) (c := Try.f47.body.getD .skip) rfl rfl rfl (fun h => by cases h) fun k hk O w0 σ0 Q hl0 hq => ?_
 obtain ⟨⟨n, m, d, c, e⟩, x, y⟩ := k
 obtain ⟨h1, h2⟩ := hk
 replace hq := hq _ rfl
 simp only at h1 h2 hq
 have fin : ∀ r : List UInt8 × Int, (if e ≠ 0 then ([], e) else j3 x y) = r → RetR Vq 1 Q [.str r.1, .int .i64 r.2] [.box [.str n, .str m, .str d, .str c, .int .i64 e]] := by
  rintro r rfl
  refine RetR.keep [0] rfl rfl (by show ∀ j, j < 1 → _; decide) rfl hq ?_ ?_ rfl
  ·exact ⟨rfl, ⟨rfl, rfl⟩, trivial⟩
  ·exact ⟨⟨rfl, rfl, rfl, rfl, ⟨rfl, rfl⟩, trivial⟩, trivial⟩
 refine zb.run hmix zag [] 400 (T := .ite (!decide (e = 0)) (.leaf (.ret [.str (Array.toList #[]), .int .i64 e] [.box [.str n, .str m, .str d, .str c, .int .i64 e]])) (.ex (fun (x_1 : List UInt8 × List UInt8) => eqL [AV.str x, AV.str y] [AV.str x_1.1, AV.str x_1.2] ∧ x_1.1.length < 4611686018427387904 ∧ x_1.2.length < 4611686018427387904) fun n_1 => .all (fun (r : List UInt8 × Int) => r = j3 n_1.1 n_1.2) fun n_2 => .leaf (.ret [.str n_2.1, .int .i64 n_2.2] [.box [.str n, .str m, .str d, .str c, .int .i64 e]]))) (by kernel_rfl) ?_
 simp only [Tree.holds, zd]
 refine ⟨fun h => ?_, fun h => ⟨(x, y), ⟨by simp, h1, h2⟩, ⟨_, rfl⟩, ?_⟩⟩
 ·have h : e ≠ 0 := by simpa using h
  exact fin ([], e) (if_pos h)
 ·have h : e = 0 := by simpa using h
  rintro _ rfl
  exact fin (j3 x y) (if_neg (by simp [h]))
def Pst (a b : List UInt8) : Nat → Pr
 | 0 => ⟨[], [], [], [], 0⟩
 | 1 => if errR a ≠ 0 then ⟨[], [], [], [], errR a⟩ else ⟨numR a, [], denR a, [], 0⟩
 | _ => qN a b
def SBq (a b : List UInt8) (i : Nat) : KV := [(5, .ptr 0 0), (12, .agg [.str a, .str b]), (13, .int .i64 (i : Int))]
noncomputable def GBq : Nat → Option Ctr := fun f => if f = 63 then some (XC) else none
theorem Qh : ∀ g c, GBq g = some c → ze Try.prog g c := okIf Xo (zz)
theorem QX : ze Try.prog 43 WW := by
 refine jw (fn := Try.f43) (c := Try.f43.body.getD .skip) rfl rfl rfl (fun h => by cases h) fun p hp O w0 σ0 Q hl0 hq => ?_
 obtain rfl : σ0 = [] := List.length_eq_zero_iff.1 hl0
 obtain ⟨a, b⟩ := p
 obtain ⟨h1, h2⟩ := hp
 replace hq := hq _ rfl
 simp only at h1 h2 hq
 refine zb.run hmix Qh [5, 12, 13] 400 (T := .leaf (.loop (Prod.fst (lps K43 0)) (Prod.snd (lps K43 0)) [(5, .ptr 0 0), (12, .agg [.str a, .str b]), (13, .int .i64 0)] [.box [.str (Array.toList #[]), .str (Array.toList #[]), .str (Array.toList #[]), .str (Array.toList #[]), .int .i64 0]])) (by kernel_rfl) ?_
 simp only [Tree.holds, zd]
 refine zb.loop (ι := {i : Nat // i ≤ 2}) (fun i => SBq a b i.1) (fun i => [(Pst a b i.1).box]) (fun i => 2 - i.1) ⟨0, Nat.zero_le _⟩ 0 ?_ ?_ (by kernel_rfl)
 ·exact ⟨by simp [SBq], by simp [Pst, Pr.box], by kernel_rfl, Nat.zero_le _⟩
 rintro ⟨i, hil⟩
 match i, hil with
 | 0, _ =>
  refine zb.run hmix Qh [5, 12, 13] 400 (T := .ite true (.side ((0 : Int) ≤ 0 ∧ (0 : Int) < 2 ∧ 1 ≤ List.length [AV.str a, AV.str b]) (.ite true (.ex (fun (x : List UInt8) => eqL [AV.str a] [AV.str x] ∧ x.length < 4611686018427387904) fun n => .all (fun (r : List UInt8 × List UInt8 × Int) => r = if errR n = 0 then (numR n, denR n, (0 : Int)) else ([], [], errR n)) fun n => .side ((0 : Int) ≤ 0 ∧ (0 : Int) < 2) (.side ((0 : Int) ≤ 0 ∧ (0 : Int) < 2) (.side (inR .i64 (1 : Int)) (.leaf (.back 0 [(5, .ptr 0 0), (12, .agg [.str a, .str b]), (13, .int .i64 1)] [.box [.str n.1, .str [], .str (n.2.1), .str [], .int .i64 (n.2.2)]]))))) (.side (inR .i64 (1 : Int)) (.leaf (.back 0 [(5, .ptr 0 0), (12, .agg [.str a, .str b]), (13, .int .i64 1)] [.box [.str [], .str [], .str [], .str [], .int .i64 0]]))))) (.leaf (.ret [.ptr 0 0] [.box [.str [], .str [], .str [], .str [], .int .i64 0]]))) (by kernel_rfl) ?_
  simp only [Tree.holds, zd, inR, lo, hi, Int.toNat_natCast]
  refine ⟨fun _ => ⟨by simp, fun _ => ⟨fun _ => ⟨a, ⟨by simp, h1⟩, ⟨_, rfl⟩, ?_⟩, fun h => (by cases h)⟩⟩, fun h => (by cases h)⟩
  intro r hr
  refine ⟨by decide, fun _ => ⟨by decide, fun _ => ⟨by decide, fun _ => ?_⟩⟩⟩
  rw [if_pos trivial]
  refine ⟨⟨1, by decide⟩, by decide, by simp [SBq], ?_, by kernel_rfl, Nat.zero_le _⟩
  have e : Pst a b 1 = ⟨r.1, [], r.2.1, [], r.2.2⟩ := by
   rw [hr]
   by_cases h : errR a = 0
   ·simp [Pst, h]
   ·simp [Pst, h]
  show eqH _ [(Pst a b 1).box]
  rw [e]
  simp [Pr.box]
 | 1, _ =>
  obtain ⟨⟨n, m, d, c, e⟩, hp⟩ : ∃ p, Pst a b 1 = p := ⟨_, rfl⟩
  simp only [hp]
  refine zb.run hmix Qh [5, 12, 13] 400 (T := .ite true (.side ((0 : Int) ≤ 1 ∧ (1 : Int) < 2 ∧ 2 ≤ List.length [AV.str a, AV.str b]) (.ite (decide (e = 0)) (.ex (fun (x : List UInt8) => eqL [AV.str b] [AV.str x] ∧ x.length < 4611686018427387904) fun n_1 => .all (fun (r : List UInt8 × List UInt8 × Int) => r = if errR n_1 = 0 then (numR n_1, denR n_1, (0 : Int)) else ([], [], errR n_1)) fun n_2 => .side ((0 : Int) ≤ 1 ∧ (1 : Int) < 2) (.side ((0 : Int) ≤ 1 ∧ (1 : Int) < 2) (.side (inR .i64 (2 : Int)) (.leaf (.back 0 [(5, .ptr 0 0), (12, .agg [.str a, .str b]), (13, .int .i64 2)] [.box [.str n, .str n_2.1, .str d, .str (n_2.2.1), .int .i64 (n_2.2.2)]]))))) (.side (inR .i64 (2 : Int)) (.leaf (.back 0 [(5, .ptr 0 0), (12, .agg [.str a, .str b]), (13, .int .i64 2)] [.box [.str n, .str m, .str d, .str c, .int .i64 e]]))))) (.leaf (.ret [.ptr 0 0] [.box [.str n, .str m, .str d, .str c, .int .i64 e]]))) (by kernel_rfl) ?_
  simp only [Tree.holds, zd, inR, lo, hi, Int.toNat_natCast]
  refine ⟨fun _ => ⟨by simp, fun _ => ⟨fun h => ⟨b, ⟨by simp, h2⟩, ⟨_, rfl⟩, ?_⟩, fun h => ⟨by decide, fun _ => ?_⟩⟩⟩, fun h => (by cases h)⟩
  ·have h : e = 0 := by simpa using h
   intro r hr
   refine ⟨by decide, fun _ => ⟨by decide, fun _ => ⟨by decide, fun _ => ?_⟩⟩⟩
   rw [if_pos trivial]
   refine ⟨⟨2, by decide⟩, by decide, by simp [SBq], ?_, by kernel_rfl, Nat.zero_le _⟩
   have e2 : Pst a b 2 = ⟨n, r.1, d, r.2.1, r.2.2⟩ := by
    rw [hr]
    by_cases ha : errR a = 0
    ·simp only [Pst, ha] at hp
     simp at hp
     obtain ⟨rfl, rfl, rfl, rfl, _⟩ := hp
     by_cases hb : errR b = 0
     ·simp [Pst, qN, ha, hb]
     ·simp [Pst, qN, ha, hb]
    ·simp only [Pst] at hp
     rw [if_pos ha] at hp
     cases hp
     exact absurd h ha
   show eqH _ [(Pst a b 2).box]
   rw [e2]
   simp [Pr.box]
  ·have h : e ≠ 0 := by simpa using h
   rw [if_pos trivial]
   refine ⟨⟨2, by decide⟩, by decide, by simp [SBq], ?_, by kernel_rfl, Nat.zero_le _⟩
   have e2 : Pst a b 2 = ⟨n, m, d, c, e⟩ := by
    by_cases ha : errR a = 0
    ·simp only [Pst, ha] at hp
     simp at hp
     exact absurd hp.2.2.2.2.symm h
    ·rw [← hp]
     simp only [Pst, qN]
     rw [if_pos ha, if_pos ha]
   show eqH _ [(Pst a b 2).box]
   rw [e2]
   simp [Pr.box]
 | 2, _ =>
  obtain ⟨⟨n, m, d, c, e⟩, hp⟩ : ∃ p, Pst a b 2 = p := ⟨_, rfl⟩
  simp only [hp]
  refine zb.run hmix Qh [5, 12, 13] 400 (T := .ite false (.side ((0 : Int) ≤ 2 ∧ (2 : Int) < 2 ∧ 3 ≤ List.length [AV.str a, AV.str b]) .fail) (.leaf (.ret [.ptr 0 0] [.box [.str n, .str m, .str d, .str c, .int .i64 e]]))) (by kernel_rfl) ?_
  simp only [Tree.holds, zd, inR, lo, hi, Int.toNat_natCast]
  refine ⟨fun h => (by cases h), fun _ => ?_⟩
  have hp : qN a b = ⟨n, m, d, c, e⟩ := hp
  rw [hp] at hq
  refine RetR.out1 0 (by show 0 < 1; decide) hq (fun h => by cases h) ?_ ?_
  ·exact ⟨rfl, rfl⟩
  ·exact ⟨rfl, rfl, rfl, rfl, ⟨rfl, rfl⟩, trivial⟩
end Go.Proofs.Try
end

/- Rationals: sums, differences, products, comparisons. -/
section
set_option maxRecDepth 100000
open Go Go.Sx Go.Proofs Go.Nov
namespace Go.Proofs.Try
attribute [local simp] eqKV eqA eqA0 eqH eqB eqL eqL0
theorem wL (a b : List UInt8) : ((qN a b).e ≠ 0 ∧ qX a b = (qN a b).e) ∨ ((qN a b).e = 0 ∧ errR a = 0 ∧ errR b = 0 ∧ (qN a b).n = numR a ∧ (qN a b).m = numR b ∧ (qN a b).d = denR a ∧ (qN a b).c = denR b) := by
 unfold qN
 by_cases ha : errR a = 0
 ·rw [if_neg (by rw [ha]; simp)]
  by_cases hb : errR b = 0
  ·rw [if_neg (by rw [hb]; simp)]
   exact .inr ⟨rfl, ha, hb, rfl, rfl, rfl, rfl⟩
  ·rw [if_pos hb]
   exact .inl ⟨hb, by unfold qX; rw [if_pos ha]⟩
 ·rw [if_pos ha]
  exact .inl ⟨ha, by unfold qX; rw [if_neg ha]⟩
theorem k9 (a b : List UInt8) : (qN a b).n.length ≤ a.length ∧ (qN a b).m.length ≤ b.length ∧ (qN a b).d.length ≤ a.length + 1 ∧ (qN a b).c.length ≤ b.length + 1 := by
 have h1 := QL a
 have h2 := QL b
 have h3 := JS a
 have h4 := JS b
 unfold qN
 split
 ·simp
 ·split
  ·simp; omega
  ·simp only; omega
theorem kx_l (x y : List UInt8) : eqL [.str x, .str y, .ptr 0 0, .ptr 2 0] [.str x, .str y, .ptr 0 0, .ptr 2 0] := ⟨rfl, rfl, ⟨rfl, rfl⟩, ⟨rfl, rfl⟩, trivial⟩
theorem kx_b (p : Pr) : eqH [.box [.str p.n, .str p.m, .str p.d, .str p.c, .int .i64 p.e]] [.box [.str p.n, .str p.m, .str p.d, .str p.c, .int .i64 p.e]] := ⟨⟨rfl, rfl, rfl, rfl, ⟨rfl, rfl⟩, trivial⟩, trivial⟩
theorem kx_h (p : Pr) (f : Nat) : eqH [.box [.ptr 1 0], .box [.str p.n, .str p.m, .str p.d, .str p.c, .int .i64 p.e], .box [.fn f [] []]] [.box [.ptr 1 0], .box [.str p.n, .str p.m, .str p.d, .str p.c, .int .i64 p.e], .box [.fn f [] []]] := ⟨⟨⟨rfl, rfl⟩, trivial⟩, (kx_b p).1, ⟨rfl, trivial⟩, trivial⟩
theorem kx_k (f : Nat) : eqL [.ptr 0 0, .fn f [] []] [.ptr 0 0, .fn f [] []] := ⟨⟨rfl, rfl⟩, rfl, trivial⟩
theorem kx_m (x y : List UInt8) : eqL [.ptr 0 0, .str x, .str y] [.ptr 0 0, .str x, .str y] := ⟨⟨rfl, rfl⟩, rfl, rfl, trivial⟩
theorem zX (p : Pr) (o : QOp) (x y : List UInt8) {r : List UInt8 × Int} (h : r = if p.e ≠ 0 then ([], p.e) else o.op x y) : r.1.length ≤ 1001 := by
 rw [h]
 refine Ua ?_
 cases o
 ·exact Yn x y
 ·exact XZ x y
 ·exact Yl x y
noncomputable def GQA : Nat → Option Ctr := fun f => if f = 43 then some (WW) else if f = 44 then some (WC) else if f = 64 then some (Qg) else if f = 47 then some (Vq) else none
theorem WI : ∀ g c, GQA g = some c → ze Try.prog g c := okIf QX (okIf JO (okIf Jg (okIf VB (zz))))
def VT : Ctr := ctrP true (fun p : List UInt8 × List UInt8 => [.str p.1, .str p.2]) (fun p => p.1.length < 2 ^ 61 ∧ p.2.length < 2 ^ 61) (fun p r => r = addR p.1 p.2) (fun _ r => (.tup [.str r.1, .int .i64 r.2], []))
def JH : Ctr := ctrP true (fun p : List UInt8 × List UInt8 => [.str p.1, .str p.2]) (fun p => p.1.length < 2 ^ 61 ∧ p.2.length < 2 ^ 61) (fun p r => r = subR p.1 p.2) (fun _ r => (.tup [.str r.1, .int .i64 r.2], []))
def X0 : Ctr := ctrP true (fun p : List UInt8 × List UInt8 => [.str p.1, .str p.2]) (fun p => p.1.length < 2 ^ 61 ∧ p.2.length < 2 ^ 61) (fun p r => r = mulR p.1 p.2) (fun _ r => (.tup [.str r.1, .int .i64 r.2], []))
theorem QA : ze Try.prog 23 VT := by
 refine zr (fn := Try.f23) (c := Try.f23.body.getD .skip) rfl rfl rfl fun p hp O w0 Q hq => ?_
 obtain ⟨a, b⟩ := p
 obtain ⟨h1, h2⟩ := hp
 replace hq := hq _ rfl
 simp only at h1 h2 hq
 refine zb.run hmix WI [] 400 (T := .ex (fun (x : List UInt8 × List UInt8) => eqL [AV.str a, AV.str b] [AV.str x.1, AV.str x.2] ∧ eqH [] [] ∧ 0 = 0 ∧ x.1.length < 4611686018427387904 ∧ x.2.length < 4611686018427387904) fun n => .all (fun (r : Pr) => r = qN n.1 n.2) fun n => .ex (fun (x : Pr × QOp) => eqL [AV.ptr 0 0, AV.fn 45 [] []] [AV.ptr 0 0, AV.fn (QOp.fn x.2) [] []] ∧ eqH [.box [AV.str n.n, AV.str n.m, AV.str n.d, AV.str n.c, AV.int .i64 n.e]] [.box [AV.str x.1.n, AV.str x.1.m, AV.str x.1.d, AV.str x.1.c, AV.int .i64 x.1.e]] ∧ 1 = 1 ∧ True) fun n => .all (fun (x : Unit) => True) fun n_1 => .ex (fun (x : Pr × QOp) => eqL [AV.ptr 0 0, AV.fn 46 [] []] [AV.ptr 0 0, AV.fn (QOp.fn x.2) [] []] ∧ eqH [.box [AV.str n.1.n, AV.str n.1.m, AV.str n.1.d, AV.str n.1.c, AV.int .i64 n.1.e]] [.box [AV.str x.1.n, AV.str x.1.m, AV.str x.1.d, AV.str x.1.c, AV.int .i64 x.1.e]] ∧ 1 = 1 ∧ True) fun n_2 => .all (fun (x : Unit) => True) fun n_3 => .side ((0 : Int) ≤ 0 ∧ (0 : Int) < 2) (.side ((0 : Int) ≤ 1 ∧ (1 : Int) < 2) (.side ((0 : Int) ≤ 1 ∧ (1 : Int) < 2) (.side ((0 : Int) ≤ 0 ∧ (0 : Int) < 2) (.side ((0 : Int) ≤ 0 ∧ (0 : Int) < 2) (.side ((0 : Int) ≤ 1 ∧ (1 : Int) < 2) (.ex (fun (x : KX) => eqL [AV.str n_2.1.n, AV.str n_2.1.c, AV.ptr 0 0, AV.ptr 2 0] [AV.str x.x, AV.str x.y, AV.ptr 0 0, AV.ptr 2 0] ∧ eqH [.box [AV.ptr 1 0], .box [AV.str n_2.1.n, AV.str n_2.1.m, AV.str n_2.1.d, AV.str n_2.1.c, AV.int .i64 n_2.1.e], .box [AV.fn (QOp.fn n.2) [] []]] [.box [AV.ptr 1 0], .box [AV.str x.p.n, AV.str x.p.m, AV.str x.p.d, AV.str x.p.c, AV.int .i64 x.p.e], .box [AV.fn (QOp.fn x.o) [] []]] ∧ 3 = 3 ∧ x.x.length < 4611686018427387904 ∧ x.y.length < 4611686018427387904) fun n => .all (fun (r : List UInt8 × Int) => r = if Pr.e n.p ≠ 0 then ([], Pr.e n.p) else QOp.op n.o n.x n.y) fun n_4 => .side (Pr.c (Pr.err n.p n_4.2) = Pr.c n_2.1) (.side (Pr.d (Pr.err n.p n_4.2) = Pr.d n_2.1) (.side (Pr.d (Pr.err n.p n_4.2) = Pr.d n_2.1) (.side (Pr.m (Pr.err n.p n_4.2) = Pr.m n_2.1) (.ex (fun (x : KX) => eqL [AV.str n_2.1.m, AV.str n_2.1.d, AV.ptr 0 0, AV.ptr 2 0] [AV.str x.x, AV.str x.y, AV.ptr 0 0, AV.ptr 2 0] ∧ eqH [.box [AV.ptr 1 0], .box [AV.str (Pr.n (Pr.err n.p n_4.2)), AV.str (Pr.m (Pr.err n.p n_4.2)), AV.str (Pr.d (Pr.err n.p n_4.2)), AV.str (Pr.c (Pr.err n.p n_4.2)), AV.int .i64 (Pr.e (Pr.err n.p n_4.2))], .box [AV.fn (QOp.fn n.o) [] []]] [.box [AV.ptr 1 0], .box [AV.str x.p.n, AV.str x.p.m, AV.str x.p.d, AV.str x.p.c, AV.int .i64 x.p.e], .box [AV.fn (QOp.fn x.o) [] []]] ∧ 3 = 3 ∧ x.x.length < 4611686018427387904 ∧ x.y.length < 4611686018427387904) fun n => .all (fun (r : List UInt8 × Int) => r = if Pr.e n.p ≠ 0 then ([], Pr.e n.p) else QOp.op n.o n.x n.y) fun n_5 => .side (Pr.c (Pr.err n.p n_5.2) = Pr.c n_2.1) (.side (Pr.d (Pr.err n.p n_5.2) = Pr.d n_2.1) (.ex (fun (x : KX) => eqL [AV.str n_4.1, AV.str n_5.1, AV.ptr 0 0, AV.ptr 2 0] [AV.str x.x, AV.str x.y, AV.ptr 0 0, AV.ptr 2 0] ∧ eqH [.box [AV.ptr 1 0], .box [AV.str (Pr.n (Pr.err n.p n_5.2)), AV.str (Pr.m (Pr.err n.p n_5.2)), AV.str (Pr.d (Pr.err n.p n_5.2)), AV.str (Pr.c (Pr.err n.p n_5.2)), AV.int .i64 (Pr.e (Pr.err n.p n_5.2))], .box [AV.fn (QOp.fn n_2.2) [] []]] [.box [AV.ptr 1 0], .box [AV.str x.p.n, AV.str x.p.m, AV.str x.p.d, AV.str x.p.c, AV.int .i64 x.p.e], .box [AV.fn (QOp.fn x.o) [] []]] ∧ 3 = 3 ∧ x.x.length < 4611686018427387904 ∧ x.y.length < 4611686018427387904) fun n_6 => .all (fun (r : List UInt8 × Int) => r = if Pr.e n_6.p ≠ 0 then ([], Pr.e n_6.p) else QOp.op n_6.o n_6.x n_6.y) fun n_7 => .side (Pr.c (Pr.err n_6.p n_7.2) = Pr.c n_2.1) (.side (Pr.d (Pr.err n_6.p n_7.2) = Pr.d n_2.1) (.ex (fun (x : KX) => eqL [AV.str n_2.1.d, AV.str n_2.1.c, AV.ptr 0 0, AV.ptr 2 0] [AV.str x.x, AV.str x.y, AV.ptr 0 0, AV.ptr 2 0] ∧ eqH [.box [AV.ptr 1 0], .box [AV.str (Pr.n (Pr.err n_6.p n_7.2)), AV.str (Pr.m (Pr.err n_6.p n_7.2)), AV.str (Pr.d (Pr.err n_6.p n_7.2)), AV.str (Pr.c (Pr.err n_6.p n_7.2)), AV.int .i64 (Pr.e (Pr.err n_6.p n_7.2))], .box [AV.fn (QOp.fn n.o) [] []]] [.box [AV.ptr 1 0], .box [AV.str x.p.n, AV.str x.p.m, AV.str x.p.d, AV.str x.p.c, AV.int .i64 x.p.e], .box [AV.fn (QOp.fn x.o) [] []]] ∧ 3 = 3 ∧ x.x.length < 4611686018427387904 ∧ x.y.length < 4611686018427387904) fun n => .all (fun (r : List UInt8 × Int) => r = if Pr.e n.p ≠ 0 then ([], Pr.e n.p) else QOp.op n.o n.x n.y) fun n_8 => .ex (fun (x : Pr × List UInt8 × List UInt8) => eqL [AV.ptr 0 0, AV.str n_7.1, AV.str n_8.1] [AV.ptr 0 0, AV.str (x.2.1), AV.str (x.2.2)] ∧ eqH [.box [AV.str (Pr.n (Pr.err n.p n_8.2)), AV.str (Pr.m (Pr.err n.p n_8.2)), AV.str (Pr.d (Pr.err n.p n_8.2)), AV.str (Pr.c (Pr.err n.p n_8.2)), AV.int .i64 (Pr.e (Pr.err n.p n_8.2))]] [.box [AV.str x.1.n, AV.str x.1.m, AV.str x.1.d, AV.str x.1.c, AV.int .i64 x.1.e]] ∧ 1 = 1 ∧ List.length (x.2.1) < 4611686018427387904 ∧ List.length (x.2.2) < 4611686018427387904) fun n_9 => .all (fun (r : List UInt8 × Int) => r = if Pr.e n_9.1 ≠ 0 then ([], Pr.e n_9.1) else j3 (n_9.2.1) (n_9.2.2)) fun n_10 => .leaf (.ret [.str n_10.1, .int .i64 n_10.2] [.box [.str n_9.1.n, .str n_9.1.m, .str n_9.1.d, .str n_9.1.c, .int .i64 n_9.1.e], .box [.ptr 0 0], .box [.fn (QOp.fn n.o) [] []], .box [.ptr 0 0], .box [.fn (QOp.fn n_6.o) [] []]])))))))))))))))) (by kernel_rfl) ?_
 simp only [Tree.holds, zd]
 refine ⟨(a, b), ⟨⟨rfl, rfl, trivial⟩, trivial, by trivial, by show a.length < _; omega, by show b.length < _; omega⟩, ⟨_, rfl⟩, ?_⟩
 intro p hp
 have hc := wL a b
 obtain ⟨l1, l2, l3, l4⟩ := k9 a b
 rw [← hp] at hc l1 l2 l3 l4
 refine ⟨(p, .mul), ⟨kx_k _, kx_b p, by trivial, trivial⟩, ⟨(), trivial⟩, ?_⟩
 intro _ _
 refine ⟨(p, .add), ⟨kx_k _, kx_b p, by trivial, trivial⟩, ⟨(), trivial⟩, ?_⟩
 intro _ _
 iterate 6 refine ⟨by decide, fun _ => ?_⟩
 refine ⟨⟨p, .mul, p.n, p.c⟩, ⟨kx_l _ _, kx_h (p) _, by trivial, by show (p.n).length < _; omega, by show (p.c).length < _; omega⟩, ⟨_, rfl⟩, ?_⟩
 intro r1 hr1
 have kr1 := zX _ _ _ _ hr1
 iterate 4 refine ⟨rfl, fun _ => ?_⟩
 refine ⟨⟨p.err r1.2, .mul, p.m, p.d⟩, ⟨kx_l _ _, kx_h (p.err r1.2) _, by trivial, by show (p.m).length < _; omega, by show (p.d).length < _; omega⟩, ⟨_, rfl⟩, ?_⟩
 intro r2 hr2
 have kr2 := zX _ _ _ _ hr2
 iterate 2 refine ⟨rfl, fun _ => ?_⟩
 refine ⟨⟨(p.err r1.2).err r2.2, .add, r1.1, r2.1⟩, ⟨kx_l _ _, kx_h ((p.err r1.2).err r2.2) _, by trivial, by show (r1.1).length < _; omega, by show (r2.1).length < _; omega⟩, ⟨_, rfl⟩, ?_⟩
 intro r3 hr3
 have kr3 := zX _ _ _ _ hr3
 iterate 2 refine ⟨rfl, fun _ => ?_⟩
 refine ⟨⟨((p.err r1.2).err r2.2).err r3.2, .mul, p.d, p.c⟩, ⟨kx_l _ _, kx_h (((p.err r1.2).err r2.2).err r3.2) _, by trivial, by show (p.d).length < _; omega, by show (p.c).length < _; omega⟩, ⟨_, rfl⟩, ?_⟩
 intro r4 hr4
 have kr4 := zX _ _ _ _ hr4
 refine ⟨((((p.err r1.2).err r2.2).err r3.2).err r4.2, r3.1, r4.1), ⟨kx_m _ _, kx_b _, by trivial, by show (r3.1).length < _; omega, by show (r4.1).length < _; omega⟩, ⟨_, rfl⟩, ?_⟩
 intro r5 hr5
 have hfin := yx hc (fun {s t} => X2 (s := s) (t := t)) hr1 hr2 hr3 hr4 hr5
 have e : r5 = addR a b := hfin
 rw [← e] at hq
 exact RetR.scal hq rfl (by simp [resV])
theorem yJ : ze Try.prog 24 JH := by
 refine zr (fn := Try.f24) (c := Try.f24.body.getD .skip) rfl rfl rfl fun p hp O w0 Q hq => ?_
 obtain ⟨a, b⟩ := p
 obtain ⟨h1, h2⟩ := hp
 replace hq := hq _ rfl
 simp only at h1 h2 hq
 refine zb.run hmix WI [] 400 (T := .ex (fun (x : List UInt8 × List UInt8) => eqL [AV.str a, AV.str b] [AV.str x.1, AV.str x.2] ∧ eqH [] [] ∧ 0 = 0 ∧ x.1.length < 4611686018427387904 ∧ x.2.length < 4611686018427387904) fun n => .all (fun (r : Pr) => r = qN n.1 n.2) fun n => .ex (fun (x : Pr × QOp) => eqL [AV.ptr 0 0, AV.fn 45 [] []] [AV.ptr 0 0, AV.fn (QOp.fn x.2) [] []] ∧ eqH [.box [AV.str n.n, AV.str n.m, AV.str n.d, AV.str n.c, AV.int .i64 n.e]] [.box [AV.str x.1.n, AV.str x.1.m, AV.str x.1.d, AV.str x.1.c, AV.int .i64 x.1.e]] ∧ 1 = 1 ∧ True) fun n => .all (fun (x : Unit) => True) fun n_1 => .ex (fun (x : Pr × QOp) => eqL [AV.ptr 0 0, AV.fn 48 [] []] [AV.ptr 0 0, AV.fn (QOp.fn x.2) [] []] ∧ eqH [.box [AV.str n.1.n, AV.str n.1.m, AV.str n.1.d, AV.str n.1.c, AV.int .i64 n.1.e]] [.box [AV.str x.1.n, AV.str x.1.m, AV.str x.1.d, AV.str x.1.c, AV.int .i64 x.1.e]] ∧ 1 = 1 ∧ True) fun n_2 => .all (fun (x : Unit) => True) fun n_3 => .side ((0 : Int) ≤ 0 ∧ (0 : Int) < 2) (.side ((0 : Int) ≤ 1 ∧ (1 : Int) < 2) (.side ((0 : Int) ≤ 1 ∧ (1 : Int) < 2) (.side ((0 : Int) ≤ 0 ∧ (0 : Int) < 2) (.side ((0 : Int) ≤ 0 ∧ (0 : Int) < 2) (.side ((0 : Int) ≤ 1 ∧ (1 : Int) < 2) (.ex (fun (x : KX) => eqL [AV.str n_2.1.n, AV.str n_2.1.c, AV.ptr 0 0, AV.ptr 2 0] [AV.str x.x, AV.str x.y, AV.ptr 0 0, AV.ptr 2 0] ∧ eqH [.box [AV.ptr 1 0], .box [AV.str n_2.1.n, AV.str n_2.1.m, AV.str n_2.1.d, AV.str n_2.1.c, AV.int .i64 n_2.1.e], .box [AV.fn (QOp.fn n.2) [] []]] [.box [AV.ptr 1 0], .box [AV.str x.p.n, AV.str x.p.m, AV.str x.p.d, AV.str x.p.c, AV.int .i64 x.p.e], .box [AV.fn (QOp.fn x.o) [] []]] ∧ 3 = 3 ∧ x.x.length < 4611686018427387904 ∧ x.y.length < 4611686018427387904) fun n => .all (fun (r : List UInt8 × Int) => r = if Pr.e n.p ≠ 0 then ([], Pr.e n.p) else QOp.op n.o n.x n.y) fun n_4 => .side (Pr.c (Pr.err n.p n_4.2) = Pr.c n_2.1) (.side (Pr.d (Pr.err n.p n_4.2) = Pr.d n_2.1) (.side (Pr.d (Pr.err n.p n_4.2) = Pr.d n_2.1) (.side (Pr.m (Pr.err n.p n_4.2) = Pr.m n_2.1) (.ex (fun (x : KX) => eqL [AV.str n_2.1.m, AV.str n_2.1.d, AV.ptr 0 0, AV.ptr 2 0] [AV.str x.x, AV.str x.y, AV.ptr 0 0, AV.ptr 2 0] ∧ eqH [.box [AV.ptr 1 0], .box [AV.str (Pr.n (Pr.err n.p n_4.2)), AV.str (Pr.m (Pr.err n.p n_4.2)), AV.str (Pr.d (Pr.err n.p n_4.2)), AV.str (Pr.c (Pr.err n.p n_4.2)), AV.int .i64 (Pr.e (Pr.err n.p n_4.2))], .box [AV.fn (QOp.fn n.o) [] []]] [.box [AV.ptr 1 0], .box [AV.str x.p.n, AV.str x.p.m, AV.str x.p.d, AV.str x.p.c, AV.int .i64 x.p.e], .box [AV.fn (QOp.fn x.o) [] []]] ∧ 3 = 3 ∧ x.x.length < 4611686018427387904 ∧ x.y.length < 4611686018427387904) fun n => .all (fun (r : List UInt8 × Int) => r = if Pr.e n.p ≠ 0 then ([], Pr.e n.p) else QOp.op n.o n.x n.y) fun n_5 => .side (Pr.c (Pr.err n.p n_5.2) = Pr.c n_2.1) (.side (Pr.d (Pr.err n.p n_5.2) = Pr.d n_2.1) (.ex (fun (x : KX) => eqL [AV.str n_4.1, AV.str n_5.1, AV.ptr 0 0, AV.ptr 2 0] [AV.str x.x, AV.str x.y, AV.ptr 0 0, AV.ptr 2 0] ∧ eqH [.box [AV.ptr 1 0], .box [AV.str (Pr.n (Pr.err n.p n_5.2)), AV.str (Pr.m (Pr.err n.p n_5.2)), AV.str (Pr.d (Pr.err n.p n_5.2)), AV.str (Pr.c (Pr.err n.p n_5.2)), AV.int .i64 (Pr.e (Pr.err n.p n_5.2))], .box [AV.fn (QOp.fn n_2.2) [] []]] [.box [AV.ptr 1 0], .box [AV.str x.p.n, AV.str x.p.m, AV.str x.p.d, AV.str x.p.c, AV.int .i64 x.p.e], .box [AV.fn (QOp.fn x.o) [] []]] ∧ 3 = 3 ∧ x.x.length < 4611686018427387904 ∧ x.y.length < 4611686018427387904) fun n_6 => .all (fun (r : List UInt8 × Int) => r = if Pr.e n_6.p ≠ 0 then ([], Pr.e n_6.p) else QOp.op n_6.o n_6.x n_6.y) fun n_7 => .side (Pr.c (Pr.err n_6.p n_7.2) = Pr.c n_2.1) (.side (Pr.d (Pr.err n_6.p n_7.2) = Pr.d n_2.1) (.ex (fun (x : KX) => eqL [AV.str n_2.1.d, AV.str n_2.1.c, AV.ptr 0 0, AV.ptr 2 0] [AV.str x.x, AV.str x.y, AV.ptr 0 0, AV.ptr 2 0] ∧ eqH [.box [AV.ptr 1 0], .box [AV.str (Pr.n (Pr.err n_6.p n_7.2)), AV.str (Pr.m (Pr.err n_6.p n_7.2)), AV.str (Pr.d (Pr.err n_6.p n_7.2)), AV.str (Pr.c (Pr.err n_6.p n_7.2)), AV.int .i64 (Pr.e (Pr.err n_6.p n_7.2))], .box [AV.fn (QOp.fn n.o) [] []]] [.box [AV.ptr 1 0], .box [AV.str x.p.n, AV.str x.p.m, AV.str x.p.d, AV.str x.p.c, AV.int .i64 x.p.e], .box [AV.fn (QOp.fn x.o) [] []]] ∧ 3 = 3 ∧ x.x.length < 4611686018427387904 ∧ x.y.length < 4611686018427387904) fun n => .all (fun (r : List UInt8 × Int) => r = if Pr.e n.p ≠ 0 then ([], Pr.e n.p) else QOp.op n.o n.x n.y) fun n_8 => .ex (fun (x : Pr × List UInt8 × List UInt8) => eqL [AV.ptr 0 0, AV.str n_7.1, AV.str n_8.1] [AV.ptr 0 0, AV.str (x.2.1), AV.str (x.2.2)] ∧ eqH [.box [AV.str (Pr.n (Pr.err n.p n_8.2)), AV.str (Pr.m (Pr.err n.p n_8.2)), AV.str (Pr.d (Pr.err n.p n_8.2)), AV.str (Pr.c (Pr.err n.p n_8.2)), AV.int .i64 (Pr.e (Pr.err n.p n_8.2))]] [.box [AV.str x.1.n, AV.str x.1.m, AV.str x.1.d, AV.str x.1.c, AV.int .i64 x.1.e]] ∧ 1 = 1 ∧ List.length (x.2.1) < 4611686018427387904 ∧ List.length (x.2.2) < 4611686018427387904) fun n_9 => .all (fun (r : List UInt8 × Int) => r = if Pr.e n_9.1 ≠ 0 then ([], Pr.e n_9.1) else j3 (n_9.2.1) (n_9.2.2)) fun n_10 => .leaf (.ret [.str n_10.1, .int .i64 n_10.2] [.box [.str n_9.1.n, .str n_9.1.m, .str n_9.1.d, .str n_9.1.c, .int .i64 n_9.1.e], .box [.ptr 0 0], .box [.fn (QOp.fn n.o) [] []], .box [.ptr 0 0], .box [.fn (QOp.fn n_6.o) [] []]])))))))))))))))) (by kernel_rfl) ?_
 simp only [Tree.holds, zd]
 refine ⟨(a, b), ⟨⟨rfl, rfl, trivial⟩, trivial, by trivial, by show a.length < _; omega, by show b.length < _; omega⟩, ⟨_, rfl⟩, ?_⟩
 intro p hp
 have hc := wL a b
 obtain ⟨l1, l2, l3, l4⟩ := k9 a b
 rw [← hp] at hc l1 l2 l3 l4
 refine ⟨(p, .mul), ⟨kx_k _, kx_b p, by trivial, trivial⟩, ⟨(), trivial⟩, ?_⟩
 intro _ _
 refine ⟨(p, .sub), ⟨kx_k _, kx_b p, by trivial, trivial⟩, ⟨(), trivial⟩, ?_⟩
 intro _ _
 iterate 6 refine ⟨by decide, fun _ => ?_⟩
 refine ⟨⟨p, .mul, p.n, p.c⟩, ⟨kx_l _ _, kx_h (p) _, by trivial, by show (p.n).length < _; omega, by show (p.c).length < _; omega⟩, ⟨_, rfl⟩, ?_⟩
 intro r1 hr1
 have kr1 := zX _ _ _ _ hr1
 iterate 4 refine ⟨rfl, fun _ => ?_⟩
 refine ⟨⟨p.err r1.2, .mul, p.m, p.d⟩, ⟨kx_l _ _, kx_h (p.err r1.2) _, by trivial, by show (p.m).length < _; omega, by show (p.d).length < _; omega⟩, ⟨_, rfl⟩, ?_⟩
 intro r2 hr2
 have kr2 := zX _ _ _ _ hr2
 iterate 2 refine ⟨rfl, fun _ => ?_⟩
 refine ⟨⟨(p.err r1.2).err r2.2, .sub, r1.1, r2.1⟩, ⟨kx_l _ _, kx_h ((p.err r1.2).err r2.2) _, by trivial, by show (r1.1).length < _; omega, by show (r2.1).length < _; omega⟩, ⟨_, rfl⟩, ?_⟩
 intro r3 hr3
 have kr3 := zX _ _ _ _ hr3
 iterate 2 refine ⟨rfl, fun _ => ?_⟩
 refine ⟨⟨((p.err r1.2).err r2.2).err r3.2, .mul, p.d, p.c⟩, ⟨kx_l _ _, kx_h (((p.err r1.2).err r2.2).err r3.2) _, by trivial, by show (p.d).length < _; omega, by show (p.c).length < _; omega⟩, ⟨_, rfl⟩, ?_⟩
 intro r4 hr4
 have kr4 := zX _ _ _ _ hr4
 refine ⟨((((p.err r1.2).err r2.2).err r3.2).err r4.2, r3.1, r4.1), ⟨kx_m _ _, kx_b _, by trivial, by show (r3.1).length < _; omega, by show (r4.1).length < _; omega⟩, ⟨_, rfl⟩, ?_⟩
 intro r5 hr5
 have hfin := yx hc (fun {s t} => Y9 (s := s) (t := t)) hr1 hr2 hr3 hr4 hr5
 have e : r5 = subR a b := hfin
 rw [← e] at hq
 exact RetR.scal hq rfl (by simp [resV])
theorem Vx : ze Try.prog 27 X0 := by
 refine zr (fn := Try.f27) (c := Try.f27.body.getD .skip) rfl rfl rfl fun p hp O w0 Q hq => ?_
 obtain ⟨a, b⟩ := p
 obtain ⟨h1, h2⟩ := hp
 replace hq := hq _ rfl
 simp only at h1 h2 hq
 refine zb.run hmix WI [] 400 (T := .ex (fun (x : List UInt8 × List UInt8) => eqL [AV.str a, AV.str b] [AV.str x.1, AV.str x.2] ∧ eqH [] [] ∧ 0 = 0 ∧ x.1.length < 4611686018427387904 ∧ x.2.length < 4611686018427387904) fun n => .all (fun (r : Pr) => r = qN n.1 n.2) fun n => .ex (fun (x : Pr × QOp) => eqL [AV.ptr 0 0, AV.fn 45 [] []] [AV.ptr 0 0, AV.fn (QOp.fn x.2) [] []] ∧ eqH [.box [AV.str n.n, AV.str n.m, AV.str n.d, AV.str n.c, AV.int .i64 n.e]] [.box [AV.str x.1.n, AV.str x.1.m, AV.str x.1.d, AV.str x.1.c, AV.int .i64 x.1.e]] ∧ 1 = 1 ∧ True) fun n => .all (fun (x : Unit) => True) fun n_1 => .side ((0 : Int) ≤ 0 ∧ (0 : Int) < 2) (.side ((0 : Int) ≤ 1 ∧ (1 : Int) < 2) (.side ((0 : Int) ≤ 0 ∧ (0 : Int) < 2) (.side ((0 : Int) ≤ 1 ∧ (1 : Int) < 2) (.ex (fun (x : KX) => eqL [AV.str n.1.n, AV.str n.1.m, AV.ptr 0 0, AV.ptr 2 0] [AV.str x.x, AV.str x.y, AV.ptr 0 0, AV.ptr 2 0] ∧ eqH [.box [AV.ptr 1 0], .box [AV.str n.1.n, AV.str n.1.m, AV.str n.1.d, AV.str n.1.c, AV.int .i64 n.1.e], .box [AV.fn (QOp.fn n.2) [] []]] [.box [AV.ptr 1 0], .box [AV.str x.p.n, AV.str x.p.m, AV.str x.p.d, AV.str x.p.c, AV.int .i64 x.p.e], .box [AV.fn (QOp.fn x.o) [] []]] ∧ 3 = 3 ∧ x.x.length < 4611686018427387904 ∧ x.y.length < 4611686018427387904) fun n_2 => .all (fun (r : List UInt8 × Int) => r = if Pr.e n_2.p ≠ 0 then ([], Pr.e n_2.p) else QOp.op n_2.o n_2.x n_2.y) fun n_3 => .side (Pr.c (Pr.err n_2.p n_3.2) = Pr.c n.1) (.side (Pr.d (Pr.err n_2.p n_3.2) = Pr.d n.1) (.ex (fun (x : KX) => eqL [AV.str n.1.d, AV.str n.1.c, AV.ptr 0 0, AV.ptr 2 0] [AV.str x.x, AV.str x.y, AV.ptr 0 0, AV.ptr 2 0] ∧ eqH [.box [AV.ptr 1 0], .box [AV.str (Pr.n (Pr.err n_2.p n_3.2)), AV.str (Pr.m (Pr.err n_2.p n_3.2)), AV.str (Pr.d (Pr.err n_2.p n_3.2)), AV.str (Pr.c (Pr.err n_2.p n_3.2)), AV.int .i64 (Pr.e (Pr.err n_2.p n_3.2))], .box [AV.fn (QOp.fn n_2.o) [] []]] [.box [AV.ptr 1 0], .box [AV.str x.p.n, AV.str x.p.m, AV.str x.p.d, AV.str x.p.c, AV.int .i64 x.p.e], .box [AV.fn (QOp.fn x.o) [] []]] ∧ 3 = 3 ∧ x.x.length < 4611686018427387904 ∧ x.y.length < 4611686018427387904) fun n => .all (fun (r : List UInt8 × Int) => r = if Pr.e n.p ≠ 0 then ([], Pr.e n.p) else QOp.op n.o n.x n.y) fun n_4 => .ex (fun (x : Pr × List UInt8 × List UInt8) => eqL [AV.ptr 0 0, AV.str n_3.1, AV.str n_4.1] [AV.ptr 0 0, AV.str (x.2.1), AV.str (x.2.2)] ∧ eqH [.box [AV.str (Pr.n (Pr.err n.p n_4.2)), AV.str (Pr.m (Pr.err n.p n_4.2)), AV.str (Pr.d (Pr.err n.p n_4.2)), AV.str (Pr.c (Pr.err n.p n_4.2)), AV.int .i64 (Pr.e (Pr.err n.p n_4.2))]] [.box [AV.str x.1.n, AV.str x.1.m, AV.str x.1.d, AV.str x.1.c, AV.int .i64 x.1.e]] ∧ 1 = 1 ∧ List.length (x.2.1) < 4611686018427387904 ∧ List.length (x.2.2) < 4611686018427387904) fun n_5 => .all (fun (r : List UInt8 × Int) => r = if Pr.e n_5.1 ≠ 0 then ([], Pr.e n_5.1) else j3 (n_5.2.1) (n_5.2.2)) fun n_6 => .leaf (.ret [.str n_6.1, .int .i64 n_6.2] [.box [.str n_5.1.n, .str n_5.1.m, .str n_5.1.d, .str n_5.1.c, .int .i64 n_5.1.e], .box [.ptr 0 0], .box [.fn (QOp.fn n.o) [] []]])))))))) (by kernel_rfl) ?_
 simp only [Tree.holds, zd]
 refine ⟨(a, b), ⟨⟨rfl, rfl, trivial⟩, trivial, by trivial, by show a.length < _; omega, by show b.length < _; omega⟩, ⟨_, rfl⟩, ?_⟩
 intro p hp
 have hc := wL a b
 obtain ⟨l1, l2, l3, l4⟩ := k9 a b
 rw [← hp] at hc l1 l2 l3 l4
 refine ⟨(p, .mul), ⟨kx_k _, kx_b p, by trivial, trivial⟩, ⟨(), trivial⟩, ?_⟩
 intro _ _
 iterate 4 refine ⟨by decide, fun _ => ?_⟩
 refine ⟨⟨p, .mul, p.n, p.m⟩, ⟨kx_l _ _, kx_h (p) _, by trivial, by show (p.n).length < _; omega, by show (p.m).length < _; omega⟩, ⟨_, rfl⟩, ?_⟩
 intro r1 hr1
 have kr1 := zX _ _ _ _ hr1
 iterate 2 refine ⟨rfl, fun _ => ?_⟩
 refine ⟨⟨p.err r1.2, .mul, p.d, p.c⟩, ⟨kx_l _ _, kx_h (p.err r1.2) _, by trivial, by show (p.d).length < _; omega, by show (p.c).length < _; omega⟩, ⟨_, rfl⟩, ?_⟩
 intro r2 hr2
 have kr2 := zX _ _ _ _ hr2
 refine ⟨((p.err r1.2).err r2.2, r1.1, r2.1), ⟨kx_m _ _, kx_b _, by trivial, by show (r1.1).length < _; omega, by show (r2.1).length < _; omega⟩, ⟨_, rfl⟩, ?_⟩
 intro r3 hr3
 have hv : errR a = 0 → errR b = 0 → zp p.n p.m = 0 ∧ zp p.d p.c = 0 := by
  intro ha hb
  obtain ⟨a1, a2, _⟩ := qp ha
  obtain ⟨b1, b2, _⟩ := qp hb
  rcases hc with ⟨g1, g2⟩ | ⟨_, _, _, g1, g2, g3, g4⟩
  ·exact absurd g2 (by unfold qX; rw [if_pos ha, hb]; exact fun h => g1 h.symm)
  ·rw [g1, g2, g3, g4]; exact ⟨zl.2 ⟨a1, b1⟩, zl.2 ⟨a2, b2⟩⟩
 have hfin := ZJ hc hr1 hr2 hr3 hv
 have e : r3 = mulR a b := by
  rw [hfin]
  unfold mulR
  rcases hc with ⟨g1, g2⟩ | ⟨_, _, _, g1, g2, g3, g4⟩
  ·rw [if_pos (by rw [g2]; exact g1), if_pos (by rw [g2]; exact g1)]
  ·rw [g1, g2, g3, g4]
 rw [← e] at hq
 exact RetR.scal hq rfl (by simp [resV])
end Go.Proofs.Try
end

/- Rationals: quotients. -/
section
set_option maxRecDepth 100000
open Go Go.Sx Go.Proofs Go.Nov
namespace Go.Proofs.Try
attribute [local simp] eqKV eqA eqA0 eqH eqB eqL eqL0
noncomputable def GQD : Nat → Option Ctr := fun f => if f = 43 then some (WW) else if f = 44 then some (WC) else if f = 64 then some (Qg) else if f = 47 then some (Vq) else none
theorem UR : ∀ g c, GQD g = some c → ze Try.prog g c := okIf QX (okIf JO (okIf Jg (okIf VB (zz))))
def Yv : Ctr := ctrP true (fun p : List UInt8 × List UInt8 => [.str p.1, .str p.2]) (fun p => p.1.length < 2 ^ 61 ∧ p.2.length < 2 ^ 61) (fun p r => r = divR p.1 p.2) (fun _ r => (.tup [.str r.1, .int .i64 r.2], []))
theorem Kd : ze Try.prog 62 Yv := by
 refine zr (fn := Try.f62) (c := Try.f62.body.getD .skip) rfl rfl rfl fun p hp O w0 Q hq => ?_
 obtain ⟨a, b⟩ := p
 obtain ⟨h1, h2⟩ := hp
 replace hq := hq _ rfl
 simp only at h1 h2 hq
 refine zb.run hmix UR [] 400 (T := .ex (fun (x : List UInt8 × List UInt8) => eqL [AV.str a, AV.str b] [AV.str x.1, AV.str x.2] ∧ eqH [] [] ∧ 0 = 0 ∧ x.1.length < 4611686018427387904 ∧ x.2.length < 4611686018427387904) fun n => .all (fun (r : Pr) => r = qN n.1 n.2) fun n => .side (decide (Pr.e n = 0) = true → (0 : Int) ≤ 1 ∧ (1 : Int) < 2) (.ite (bif decide (Pr.e n = 0) then decide (Pr.m n = Array.toList #[(48 : UInt8)]) else false) (.leaf (.ret [.str (Array.toList #[]), .int .i64 16] [.box [.str n.n, .str n.m, .str n.d, .str n.c, .int .i64 n.e]])) (.ex (fun (x : Pr × QOp) => eqL [AV.ptr 0 0, AV.fn 45 [] []] [AV.ptr 0 0, AV.fn (QOp.fn x.2) [] []] ∧ eqH [.box [AV.str n.n, AV.str n.m, AV.str n.d, AV.str n.c, AV.int .i64 n.e]] [.box [AV.str x.1.n, AV.str x.1.m, AV.str x.1.d, AV.str x.1.c, AV.int .i64 x.1.e]] ∧ 1 = 1 ∧ True) fun n => .all (fun (x : Unit) => True) fun n_1 => .side ((0 : Int) ≤ 0 ∧ (0 : Int) < 2) (.side ((0 : Int) ≤ 1 ∧ (1 : Int) < 2) (.side ((0 : Int) ≤ 0 ∧ (0 : Int) < 2) (.side ((0 : Int) ≤ 1 ∧ (1 : Int) < 2) (.ex (fun (x : KX) => eqL [AV.str n.1.n, AV.str n.1.c, AV.ptr 0 0, AV.ptr 2 0] [AV.str x.x, AV.str x.y, AV.ptr 0 0, AV.ptr 2 0] ∧ eqH [.box [AV.ptr 1 0], .box [AV.str n.1.n, AV.str n.1.m, AV.str n.1.d, AV.str n.1.c, AV.int .i64 n.1.e], .box [AV.fn (QOp.fn n.2) [] []]] [.box [AV.ptr 1 0], .box [AV.str x.p.n, AV.str x.p.m, AV.str x.p.d, AV.str x.p.c, AV.int .i64 x.p.e], .box [AV.fn (QOp.fn x.o) [] []]] ∧ 3 = 3 ∧ x.x.length < 4611686018427387904 ∧ x.y.length < 4611686018427387904) fun n_2 => .all (fun (r : List UInt8 × Int) => r = if Pr.e n_2.p ≠ 0 then ([], Pr.e n_2.p) else QOp.op n_2.o n_2.x n_2.y) fun n_3 => .side (Pr.m (Pr.err n_2.p n_3.2) = Pr.m n.1) (.side (Pr.d (Pr.err n_2.p n_3.2) = Pr.d n.1) (.ex (fun (x : KX) => eqL [AV.str n.1.d, AV.str n.1.m, AV.ptr 0 0, AV.ptr 2 0] [AV.str x.x, AV.str x.y, AV.ptr 0 0, AV.ptr 2 0] ∧ eqH [.box [AV.ptr 1 0], .box [AV.str (Pr.n (Pr.err n_2.p n_3.2)), AV.str (Pr.m (Pr.err n_2.p n_3.2)), AV.str (Pr.d (Pr.err n_2.p n_3.2)), AV.str (Pr.c (Pr.err n_2.p n_3.2)), AV.int .i64 (Pr.e (Pr.err n_2.p n_3.2))], .box [AV.fn (QOp.fn n_2.o) [] []]] [.box [AV.ptr 1 0], .box [AV.str x.p.n, AV.str x.p.m, AV.str x.p.d, AV.str x.p.c, AV.int .i64 x.p.e], .box [AV.fn (QOp.fn x.o) [] []]] ∧ 3 = 3 ∧ x.x.length < 4611686018427387904 ∧ x.y.length < 4611686018427387904) fun n => .all (fun (r : List UInt8 × Int) => r = if Pr.e n.p ≠ 0 then ([], Pr.e n.p) else QOp.op n.o n.x n.y) fun n_4 => .ex (fun (x : Pr × List UInt8 × List UInt8) => eqL [AV.ptr 0 0, AV.str n_3.1, AV.str n_4.1] [AV.ptr 0 0, AV.str (x.2.1), AV.str (x.2.2)] ∧ eqH [.box [AV.str (Pr.n (Pr.err n.p n_4.2)), AV.str (Pr.m (Pr.err n.p n_4.2)), AV.str (Pr.d (Pr.err n.p n_4.2)), AV.str (Pr.c (Pr.err n.p n_4.2)), AV.int .i64 (Pr.e (Pr.err n.p n_4.2))]] [.box [AV.str x.1.n, AV.str x.1.m, AV.str x.1.d, AV.str x.1.c, AV.int .i64 x.1.e]] ∧ 1 = 1 ∧ List.length (x.2.1) < 4611686018427387904 ∧ List.length (x.2.2) < 4611686018427387904) fun n_5 => .all (fun (r : List UInt8 × Int) => r = if Pr.e n_5.1 ≠ 0 then ([], Pr.e n_5.1) else j3 (n_5.2.1) (n_5.2.2)) fun n_6 => .leaf (.ret [.str n_6.1, .int .i64 n_6.2] [.box [.str n_5.1.n, .str n_5.1.m, .str n_5.1.d, .str n_5.1.c, .int .i64 n_5.1.e], .box [.ptr 0 0], .box [.fn (QOp.fn n.o) [] []]])))))))))) (by kernel_rfl) ?_
 simp only [Tree.holds, zd]
 refine ⟨(a, b), ⟨⟨rfl, rfl, trivial⟩, trivial, by trivial, by show a.length < _; omega, by show b.length < _; omega⟩, ⟨_, rfl⟩, ?_⟩
 intro p hp
 have hc := wL a b
 obtain ⟨l1, l2, l3, l4⟩ := k9 a b
 rw [← hp] at hc l1 l2 l3 l4
 have h0 : (decide (p.e = 0) = true → 0 ≤ 1 ∧ (1 : Int) < 2) := fun _ => by decide
 refine ⟨fun _ => by decide, fun _ => ⟨fun h => ?_, fun h => ?_⟩⟩
 ·have he : p.e = 0 := Decidable.byContradiction fun g => by rw [decide_eq_false g] at h; cases h
  rw [decide_eq_true he] at h
  have hm : p.m = [48] := of_decide_eq_true h
  have e : divR a b = ([], 16) := by
   rcases hc with ⟨g, _⟩ | ⟨_, g1, g2, _, g3, _⟩
   ·exact absurd he g
   ·unfold divR qX
    rw [if_pos g1, g2, if_neg (by simp), if_pos (by rw [← g3]; exact hm)]
  rw [e] at hq
  exact RetR.scal hq rfl (by simp [resV])
 have hne : p.e = 0 → p.m ≠ [48] := fun he g => by
  rw [decide_eq_true he, decide_eq_true g] at h
  cases h
 refine ⟨(p, .mul), ⟨kx_k _, kx_b p, by trivial, trivial⟩, ⟨(), trivial⟩, ?_⟩
 intro _ _
 iterate 4 refine ⟨by decide, fun _ => ?_⟩
 refine ⟨⟨p, .mul, p.n, p.c⟩, ⟨kx_l _ _, kx_h (p) _, by trivial, by show (p.n).length < _; omega, by show (p.c).length < _; omega⟩, ⟨_, rfl⟩, ?_⟩
 intro r1 hr1
 have kr1 := zX _ _ _ _ hr1
 iterate 2 refine ⟨rfl, fun _ => ?_⟩
 refine ⟨⟨p.err r1.2, .mul, p.d, p.m⟩, ⟨kx_l _ _, kx_h (p.err r1.2) _, by trivial, by show (p.d).length < _; omega, by show (p.m).length < _; omega⟩, ⟨_, rfl⟩, ?_⟩
 intro r2 hr2
 have kr2 := zX _ _ _ _ hr2
 refine ⟨((p.err r1.2).err r2.2, r1.1, r2.1), ⟨kx_m _ _, kx_b _, by trivial, by show (r1.1).length < _; omega, by show (r2.1).length < _; omega⟩, ⟨_, rfl⟩, ?_⟩
 intro r3 hr3
 have hv : errR a = 0 → errR b = 0 → zp p.n p.c = 0 ∧ zp p.d p.m = 0 := by
  intro ha hb
  obtain ⟨a1, a2, _⟩ := qp ha
  obtain ⟨b1, b2, _⟩ := qp hb
  rcases hc with ⟨g1, g2⟩ | ⟨_, _, _, g1, g2, g3, g4⟩
  ·exact absurd g2 (by unfold qX; rw [if_pos ha, hb]; exact fun h => g1 h.symm)
  ·rw [g1, g2, g3, g4]; exact ⟨zl.2 ⟨a1, b2⟩, zl.2 ⟨a2, b1⟩⟩
 have hfin := ZJ hc hr1 hr2 hr3 hv
 have e : r3 = divR a b := by
  rw [hfin]
  unfold divR
  rcases hc with ⟨g1, g2⟩ | ⟨g0, _, _, g1, g2, g3, g4⟩
  ·rw [if_pos (by rw [g2]; exact g1), if_pos (by rw [g2]; exact g1)]
  ·rw [← g1, ← g2, ← g3, ← g4, if_neg (hne g0)]
 rw [← e] at hq
 exact RetR.scal hq rfl (by simp [resV])
end Go.Proofs.Try
end

/- Arguments that say no less than a contract asks. -/
section
namespace Go.Sx
variable [Stat]
section
variable {P : Program}
theorem ZH (a : AV) : eqA0 a a := by
 cases a <;> simp [eqA0]
 exact fun _ _ _ _ => rfl
theorem xO : ∀ l : List AV, eqL0 l l
 | [] => trivial
 | a :: l => ⟨ZH a, xO l⟩
theorem Xv (a : AV) : eqA a a := by
 cases a with
 | agg l => exact xO l
 | tup l => exact xO l
 | _ => unfold eqA; exact ZH _
theorem uA : ∀ l : List AV, eqL l l
 | [] => trivial
 | a :: l => by
  unfold eqL
  split
  ·rename_i h1 h2; cases h1
  ·rename_i h1 h2; cases h1; cases h2; exact uA l
  ·rename_i h1 h2; cases h1; cases h2; exact ⟨Xv _, uA l⟩
  ·rename_i hx; exact (hx _ _ _ _ rfl rfl).elim
end
end Go.Sx
end

/- A contract that is the callee's own run: for small functions without loops. -/
section
namespace Go.Sx
variable [Stat]
section
variable {P : Program} {Γ : Nat → Option Ctr} {fn : Func}
def inlC (P : Program) (Γ : Nat → Option Ctr) (n : Nat) (fn : Func) : Ctr where
 fresh := false
 spec args hc := match fn.body with
  | some c => (run P Γ hc.length n [.code c] (vY fn args hc)).bind fun lf => match lf with
   | .ret st => (resX P st fn.results.toList).bind fun rs => bif decide (hc.length ≤ st.heap.length) then .leaf (exp2 st.heap (List.range st.heap.length) (resV rs), expH st.heap (List.range st.heap.length)) else .fail
   | _ => .fail
  | none => .fail
theorem nodup_range' : ∀ (n s : Nat), jE (List.range' s n) = true
 | 0, _ => rfl
 | n + 1, s => by
  rw [List.range'_succ]
  simp only [jE, Bool.and_eq_true]
  refine ⟨?_, nodup_range' n (s + 1)⟩
  simp [List.contains_eq_mem, List.mem_range'_1]
theorem Kr (b : Blk) : eqB b b := by
 cases b with
 | dead => trivial
 | box l => exact uA l
 | arr n sz g => exact ⟨rfl, rfl, fun _ _ _ _ => rfl⟩
 | arrI k n f => exact ⟨rfl, fun _ _ _ _ => rfl⟩
 | arrS n f => exact ⟨rfl, fun _ _ _ _ => rfl⟩
 | map ag sh has get => exact ⟨rfl, rfl, fun _ => rfl, fun _ _ => rfl⟩
theorem Km (h : Heap) : eqH h h := by
 induction h with
 | nil => trivial
 | cons b l ih => exact ⟨Kr b, ih⟩
theorem vI {g n : Nat} (hmix : P.follows .mixedOrders = true) (hΓ : ∀ g c, Γ g = some c → ze P g c) (hf : P.funcs[g]? = some fn) (hn : (fn.name == "runtime.NumGoroutine") = false) : ze P g (inlC P Γ n fn) := by
 intro args hc Q hq hfr
 simp only [inlC] at hq
 cases hb : fn.body with
 | none => rw [hb] at hq; exact hq.elim
 | some c =>
  rw [hb] at hq
  simp only [Tree.zj] at hq
  refine Uv hf hb hn hfr fun O w0 σ0 hl => Safe.run hmix hΓ n (Tree.zF (fun lf h => ?_) hq)
  cases lf with
  | ret st =>
   simp only [Tree.zj] at h
   refine Tree.zF (fun rs h => ?_) h
   cases hd : decide (hc.length ≤ st.heap.length) with
   | false => rw [hd] at h; exact h.elim
   | true =>
    rw [hd] at h
    have h : Q (exp2 st.heap (List.range st.heap.length) (resV rs), expH st.heap (List.range st.heap.length)) := h
    have hd := of_decide_eq_true hd
    exact ⟨List.range st.heap.length, by rw [List.range_eq_range']; exact nodup_range' _ _, fun i hi => List.mem_range.1 hi, fun j hj => by rw [List.getElem?_range (by omega)], fun h => (by cases h), _, _, LeA.refl _, Km _, by simp [expH], h⟩
  | _ => exact h.elim
end
end Go.Sx
end

/- Orders of what is known. -/
section
namespace Go.Nov
open Go.Sx
structure Fx where
 name : List UInt8
 date : Int
 value : List UInt8
structure Ch where
 Ur : List UInt8
 name : List UInt8
 date : Int
 first : Bool
abbrev Fx.nil : Fx := ⟨[], 0, []⟩
abbrev Ch.nil : Ch := ⟨[], [], 0, false⟩
def Fx.cell (f : Fx) : Nat → AV
 | 0 => .str f.name
 | 1 => .int .i64 f.date
 | 2 => .str f.value
 | _ => .undef
def Ch.cell (c : Ch) : Nat → AV
 | 0 => .str c.Ur
 | 1 => .str c.name
 | 2 => .int .i64 c.date
 | 3 => .bool c.first
 | _ => .undef
def Fx.av (f : Fx) : AV := .agg [.str f.name, .int .i64 f.date, .str f.value]
def Ch.av (c : Ch) : AV := .agg [.str c.Ur, .str c.name, .int .i64 c.date, .bool c.first]
end Go.Nov
namespace Go.Nov
end Go.Nov
namespace Go.Nov
end Go.Nov
namespace Go.Nov
end Go.Nov
namespace Go.Nov
end Go.Nov
end

/- A place in an ordered list. -/
section
namespace Go.Nov
open Go.Sx
structure OrdK {α : Type} (c : α → α → Int) : Prop where
 lt : ∀ a b d, c a b < 0 → c b d < 0 → c a d < 0
 eq : ∀ a b d, c a b < 0 → c b d = 0 → c a d < 0
section
variable {α : Type} {c : α → α → Int} {z x : α}
end
def Um (l : List Fx) (a : List UInt8) (d : Int) : List UInt8 × Bool := match l.find? fun x => decide (x.name = a) && decide (x.date = d) with
 | some x => (x.value, true)
 | none => ([], false)
end Go.Nov
end

/- Rationals: what they mean. -/
section
namespace Go.Nov
theorem UZ {b : List UInt8} (h : allD b) (hn : b ≠ []) (hz : b.getD 0 0 ≠ 48) : numD b ≠ 0 ∧ txt (numD b) = b := by
 have hd := UN h
 have hl : 0 < b.length := List.length_pos_iff.2 hn
 have htl : Ten.tlen (dg b) = (dg b).length := by
  rcases Nat.lt_or_ge (Ten.tlen (dg b)) (dg b).length with h1 | h1
  ·exfalso
   have h2 := Ten.jk (dg b) ((dg b).length - 1) (by omega)
   rw [WA] at h2
   have e : (dg b).getD (b.length - 1) 0 = (b.getD 0 0).toNat - 48 := by
    simp only [dg, List.getD_eq_getElem?_getD]
    rw [List.getElem?_reverse (by simp; omega)]
    simp [List.getElem?_eq_getElem hl, show b.length - 1 - (b.length - 1) = 0 by omega]
   rw [e] at h2
   have h3 : 48 ≤ (b.getD 0 0).toNat := by
    cases b with
    | nil => exact absurd rfl hn
    | cons c r => exact (h c (by simp)).1
   apply hz
   apply UInt8.toNat_inj.1
   show _ = 48
   omega
  ·exact Nat.le_antisymm (Ten.zO _) h1
 have hc : dec (numD b) = dg b := by
  rw [← Wk]
  exact Ten.Zt hd htl
 have h0 : numD b ≠ 0 := by
  intro h0
  rw [h0] at hc
  have : dg b = [] := by rw [← hc]; exact Ten.z6
  have := congrArg List.length this
  rw [WA, List.length_nil] at this
  omega
 refine ⟨h0, ?_⟩
 rw [xg h0, hc, dg, ← List.map_reverse, List.reverse_reverse, List.map_map]
 conv => rhs; rw [← List.map_id b]
 refine List.map_congr_left fun c hcm => ?_
 obtain ⟨h1, h2⟩ := h c hcm
 apply UInt8.toNat_inj.1
 simp only [Function.comp, id]
 rw [yE (by omega)]
 omega
theorem Vt {s : List UInt8} (h : errI s = 0) : wr (negI s) (numI s) = (s, 0) := by
 obtain ⟨neg, b, h1, h2, h3, h4, h5, h6⟩ := ZZ h
 have e1 : negI s = neg := by simp [negI, h2]
 have e2 : numI s = numD b := by simp [numI, h2]
 rw [e1, e2]
 by_cases hz : b.getD 0 0 = 48
 ·have hb : b = [48] := by
   cases b with
   | nil => exact absurd rfl h5
   | cons c r =>
    cases r with
    | nil => have : c = 48 := hz; rw [this]
    | cons d r => rw [vf hz (by simp)] at h3; cases h3
  subst hb
  cases neg with
  | true => cases h3
  | false => rw [h1]; rfl
 ·obtain ⟨g1, g2⟩ := UZ h4 h5 hz
  unfold wr
  rw [if_neg g1, g2, if_neg, h1]
  have := yI g1
  rw [g2] at this
  omega
def zI (s : List UInt8) : Int := if negI s then -(numI s : Int) else numI s
theorem jx (s : List UInt8) : (zI s).natAbs = numI s := by unfold zI; split <;> simp
theorem QI {s : List UInt8} (h : errI s = 0) : negI s = decide (zI s < 0) := by
 unfold zI
 cases hn : negI s with
 | false => simp
 | true =>
  simp only [if_true]
  have : numI s ≠ 0 := by
   intro h0
   have := (vR h).2 h0
   rw [this] at hn
   cases hn
  exact (decide_eq_true (by omega)).symm
def wz (z : Int) : List UInt8 × Int := wr (decide (z < 0)) z.natAbs
theorem V3 {s : List UInt8} (h : errI s = 0) : wz (zI s) = (s, 0) := by
 unfold wz
 rw [jx, ← QI h, Vt h]
theorem zam {neg : Bool} {x : Nat} (h : (wr neg x).2 = 0) : zI (wr neg x).1 = if neg then -(x : Int) else x := by
 obtain ⟨h1, h2, h3⟩ := yp h
 unfold zI
 rw [h2, h3]
 by_cases h0 : x = 0
 ·subst h0; simp
 ·cases neg <;> simp [h0]
theorem kD {z : Int} (h : (wz z).2 = 0) : zI (wz z).1 = z := by
 unfold wz at h ⊢
 rw [zam h]
 by_cases hz : z < 0
 ·rw [decide_eq_true hz]; simp only [if_true]; omega
 ·rw [decide_eq_false hz]; simp only [Bool.false_eq_true, if_false]; omega
theorem yo {z : Int} (h : (wz z).2 = 0) : errI (wz z).1 = 0 := (yp h).1
theorem QU {neg : Bool} {x : Nat} : wr neg x = wz (if neg then -(x : Int) else x) := by
 unfold wz
 by_cases h0 : x = 0
 ·subst h0
  cases neg <;> rfl
 ·cases neg with
  | false => simp only [Bool.false_eq_true, if_false, Int.natAbs_natCast]; rw [decide_eq_false (by omega)]
  | true => simp only [if_true, Int.natAbs_neg, Int.natAbs_natCast]; rw [decide_eq_true (by omega)]
theorem Yk (m : Bool) (x : Nat) (n : Bool) (y : Nat) : (if (sumS m x n y).1 then -((sumS m x n y).2 : Int) else (sumS m x n y).2) = (if m then -(x : Int) else x) + (if n then -(y : Int) else y) := by
 unfold sumS
 by_cases h : m = n
 ·subst h
  rw [if_pos rfl]
  cases m <;> simp <;> omega
 ·rw [if_neg h]
  by_cases h2 : y ≤ x
  ·rw [if_pos h2]
   cases m <;> cases n <;> first | exact absurd rfl h | (simp; omega)
  ·rw [if_neg h2]
   cases m <;> cases n <;> first | exact absurd rfl h | (simp; omega)
theorem zaa {s t : List UInt8} (h : zp s t = 0) : addI s t = wz (zI s + zI t) := by
 unfold addI
 rw [if_pos h, QU, Yk]; rfl
theorem za5 {s t : List UInt8} (h : zp s t = 0) : subI s t = wz (zI s - zI t) := by
 unfold subI
 rw [if_pos h, QU, Yk]
 congr 1
 unfold zI
 cases negI s <;> cases negI t <;> simp <;> omega
theorem kp {s t : List UInt8} (h : zp s t = 0) : mulI s t = wz (zI s * zI t) := by
 unfold mulI
 rw [if_pos h, QU]
 congr 1
 unfold zI
 cases negI s <;> cases negI t <;> simp [Int.neg_mul, Int.mul_neg]
end Go.Nov
end

/- Rationals: how a number is written; what the operations yield. -/
section
namespace Go.Nov
def qv (a : List UInt8) : Rat := Rat.divInt (zI (numR a)) (zI (denR a))
def qstr (r : Rat) : List UInt8 := if r.den = 1 then (wz r.num).1 else (wz r.num).1 ++ [47] ++ (wz r.den).1
def vC (r : Rat) : Prop := room r.num.natAbs ∧ room r.den
theorem XH (neg : Bool) (x : Nat) : ∀ c ∈ (wr neg x).1, c ≠ 47 := by
 intro c hc h
 subst h
 unfold wr at hc
 split at hc
 ·simp at hc
 ·rename_i h0
  split at hc
  ·simp at hc
  ·have ht : ¬ (47 : UInt8) ∈ txt x := fun hm => by
    have := (VX h0 _ hm).1
    have e : (47 : UInt8).toNat = 47 := rfl
    omega
   cases neg <;> simp [sgn] at hc <;> exact ht hc
theorem KS {u v : List UInt8} (h : ∀ c ∈ u, c ≠ 47) : cutR (u ++ [47] ++ v) = (u, v, true) := by
 have hs : z5 (u ++ [47] ++ v) = u.length := by
  refine X3 (by simp) (by simp [List.getD]) fun j hj => ?_
  rw [List.append_assoc]
  simp only [List.getD, List.getElem?_append_left hj, List.getElem?_eq_getElem hj, Option.getD_some]
  exact h _ (List.getElem_mem hj)
 rw [Vp (by rw [hs]; simp), hs]
 simp
theorem Ki {u : List UInt8} (h : ∀ c ∈ u, c ≠ 47) : cutR u = (u, [], false) := by
 have hs : z5 u = u.length := Wj fun j hj => by
  simp only [List.getD, List.getElem?_eq_getElem hj, Option.getD_some]
  exact h _ (List.getElem_mem hj)
 exact Xj (by omega)
theorem Jl (z : Int) : ∀ c ∈ (wz z).1, c ≠ 47 := XH _ _
theorem ku {z : Int} (h : room z.natAbs) : (wz z).2 = 0 := wN h
theorem UJ : wz 1 = ([49], 0) := vp
theorem yV {r : Rat} (h : vC r) : numR (qstr r) = (wz r.num).1 ∧ denR (qstr r) = (wz (r.den : Int)).1 ∧ (cutR (qstr r)).2.2 = decide (r.den ≠ 1) := by
 unfold qstr
 by_cases h1 : r.den = 1
 ·rw [if_pos h1]
  have := Ki (Jl r.num)
  unfold numR denR
  rw [this, h1]
  exact ⟨rfl, by simp only [Bool.false_eq_true, if_false]; exact (congrArg Prod.fst UJ).symm, by simp⟩
 ·rw [if_neg h1]
  have := KS (v := (wz (r.den : Int)).1) (Jl r.num)
  unfold numR denR
  rw [this]
  exact ⟨rfl, rfl, by simp [h1]⟩
theorem yK {r : Rat} (h : vC r) : qv (qstr r) = r := by
 obtain ⟨h1, h2, _⟩ := yV h
 unfold qv
 rw [h1, h2, kD (ku h.1), kD (ku (by rw [Int.natAbs_natCast]; exact h.2)), Rat.divInt_ofNat, Rat.mkRat_self]
theorem kA {r : Rat} (h : vC r) : errR (qstr r) = 0 := by
 obtain ⟨h1, h2, h3⟩ := yV h
 have e1 := yo (ku h.1)
 have e2 : errI (wz (r.den : Int)).1 = 0 := yo (ku (by rw [Int.natAbs_natCast]; exact h.2))
 have z1 := kD (ku h.1)
 have z2 : zI (wz (r.den : Int)).1 = r.den := kD (ku (by rw [Int.natAbs_natCast]; exact h.2))
 unfold errR
 by_cases hd : r.den = 1
 ·rw [h3, hd]
  simp only [ne_eq, not_true_eq_false, decide_false, Bool.false_eq_true, if_false]
  unfold qstr
  rw [if_pos hd]
  exact e1
 ·have hc : (cutR (qstr r)).2.2 = true := by rw [h3]; simp [hd]
  have n1 : (cutR (qstr r)).1 = (wz r.num).1 := h1
  have n2 : (cutR (qstr r)).2.1 = (wz (r.den : Int)).1 := by unfold denR at h2; rw [hc] at h2; exact h2
  rw [hc, if_pos rfl, n1, n2]
  have hp := r.den_pos
  have hneg : negI (wz (r.den : Int)).1 = false := by rw [QI e2, z2]; exact decide_eq_false (by omega)
  have hn48 : (wz (r.den : Int)).1 ≠ [48] := fun h => by
   rw [h] at z2
   have : zI [48] = 0 := rfl
   omega
  have hn49 : (wz (r.den : Int)).1 ≠ [49] := fun h => by
   rw [h] at z2
   have : zI [49] = 1 := rfl
   omega
  rw [if_neg (by simp [e1, e2, hneg, hn48, hn49]), if_neg (by simp [e1, e2])]
  have hg : gcdR (wz r.num).1 (wz (r.den : Int)).1 = wr false (Nat.gcd r.num.natAbs r.den) := by
   unfold gcdR
   rw [if_pos (zl.2 ⟨e1, e2⟩), ← jx, ← jx, z1, z2, Int.natAbs_natCast]
  have hr : Nat.gcd r.num.natAbs r.den = 1 := r.reduced
  rw [hg, hr, vp, if_neg (by simp)]
theorem xD {a : List UInt8} (h : errR a = 0) : (qv a).num = zI (numR a) ∧ ((qv a).den : Int) = zI (denR a) ∧ qstr (qv a) = a ∧ vC (qv a) := by
 obtain ⟨e1, e2, e3, e4⟩ := qp h
 have hz : zI (denR a) = numI (denR a) := by unfold zI; rw [e3]; rfl
 have hcop : Nat.gcd (numI (numR a)) (numI (denR a)) = 1 := by
  unfold errR at h
  cases hc : (cutR a).2.2 with
  | true =>
   rw [hc, if_pos rfl] at h
   have hd : denR a = (cutR a).2.1 := by unfold denR; rw [hc]; rfl
   rw [hd] at e2 e4 ⊢
   unfold numR at e1 ⊢
   split at h
   ·cases h
   split at h
   ·cases h
   split at h
   ·cases h
   ·rename_i hg
    rw [Classical.not_not] at hg
    unfold gcdR at hg
    rw [if_pos (zl.2 ⟨e1, e2⟩)] at hg
    exact (W0 (Jm e2 e4).2).1 hg
  | false =>
   have : denR a = [49] := by unfold denR; rw [hc]; rfl
   rw [this]
   exact Nat.gcd_one_right _
 have hq : qv a = ⟨zI (numR a), numI (denR a), e4, by rw [jx]; exact hcop⟩ := by
  unfold qv
  rw [hz, Rat.mk_eq_divInt]
 have hroom : vC (qv a) := by
  rw [hq]
  exact ⟨by show room (zI (numR a)).natAbs; rw [jx]; exact ja e1, ja e2⟩
 refine ⟨by rw [hq], by rw [hq, hz], ?_, hroom⟩
 rw [hq]
 unfold qstr
 simp only
 rw [← hz, V3 e1, V3 e2]
 cases hc : (cutR a).2.2 with
 | true =>
  have hd : denR a = (cutR a).2.1 := by unfold denR; rw [hc]; rfl
  have hn1 : numI (denR a) ≠ 1 := by
   intro h1
   have : denR a = [49] := by
    have := (Vt e2)
    rw [e3, h1, vp] at this
    exact (congrArg Prod.fst this).symm
   unfold errR at h
   rw [hc, if_pos rfl, if_pos (by rw [← hd, this]; simp)] at h
   cases h
  rw [if_neg hn1, hd]
  simp only [numR]
  unfold cutR at hc ⊢
  split at hc
  ·rename_i hs
   rw [if_pos hs]
   simp only
   have h47 := uR hs
   have : a = a.take (z5 a) ++ ([a.getD (z5 a) 0] ++ a.drop (z5 a + 1)) := by
    conv => lhs; rw [← List.take_append_drop (z5 a) a]
    congr 1
    rw [List.drop_eq_getElem_cons hs]
    simp [List.getD, List.getElem?_eq_getElem hs]
   rw [h47] at this
   rw [List.append_assoc]
   exact this.symm
  ·cases hc
 | false =>
  have hd : denR a = [49] := by unfold denR; rw [hc]; rfl
  rw [hd]
  have : numI [49] = 1 := rfl
  rw [if_pos this]
  unfold numR
  unfold cutR at hc ⊢
  split at hc
  ·cases hc
  ·rename_i hs
   rw [if_neg hs]
theorem Yu {a b : List UInt8} (ha : errR a = 0) (hb : errR b = 0) (h : qv a = qv b) : a = b := by
 rw [← (xD ha).2.2.1, ← (xD hb).2.2.1, h]
end Go.Nov
end

/- Rationals: what the operations yield. -/
section
namespace Go.Nov
theorem Uf (a b : Int) (hb : b ≠ 0) : b.sign * a = if (decide (a < 0) != decide (b < 0)) = true then -(a.natAbs : Int) else a.natAbs := by
 by_cases h1 : a < 0
 ·rw [decide_eq_true h1]
  by_cases h2 : b < 0
  ·rw [decide_eq_true h2, Int.sign_eq_neg_one_of_neg h2]; simp; omega
  ·rw [decide_eq_false h2, Int.sign_eq_one_of_pos (by omega)]; simp; omega
 ·rw [decide_eq_false h1]
  by_cases h2 : b < 0
  ·rw [decide_eq_true h2, Int.sign_eq_neg_one_of_neg h2]; simp; omega
  ·rw [decide_eq_false h2, Int.sign_eq_one_of_pos (by omega)]; simp; omega
theorem zaf {n d : List UInt8} (hn : errI n = 0) (hd : errI d = 0) (h0 : numI d ≠ 0) : j3 n d = (qstr (Rat.divInt (zI n) (zI d)), 0) ∧ vC (Rat.divInt (zI n) (zI d)) := by
 have hz0 : zI d ≠ 0 := fun h => h0 (by rw [← jx, h]; rfl)
 have hg : (zI d).gcd (zI n) = Nat.gcd (numI n) (numI d) := by
  show Nat.gcd _ _ = _
  rw [jx, jx, Nat.gcd_comm]
 have hden : (Rat.divInt (zI n) (zI d)).den = numI d / Nat.gcd (numI n) (numI d) := by
  rw [Rat.den_divInt, if_neg hz0, hg, jx]
 have hdv : Nat.gcd (numI n) (numI d) ∣ numI n := Nat.gcd_dvd_left _ _
 have hnum : (Rat.divInt (zI n) (zI d)).num = if (negI n != negI d) = true then -((numI n / Nat.gcd (numI n) (numI d) : Nat) : Int) else ((numI n / Nat.gcd (numI n) (numI d) : Nat) : Int) := by
  rw [Rat.num_divInt, hg, Uf _ _ hz0, jx, ← QI hn, ← QI hd]
  split
  ·rw [Int.neg_ediv_of_dvd (Int.natCast_dvd_natCast.2 hdv), Int.natCast_ediv]
  ·rw [Int.natCast_ediv]
 have hroom : vC (Rat.divInt (zI n) (zI d)) := by
  refine ⟨?_, by rw [hden]; exact room_le (Nat.div_le_self _ _) (ja hd)⟩
  rw [hnum]
  have : room (numI n / Nat.gcd (numI n) (numI d)) := room_le (Nat.div_le_self _ _) (ja hn)
  split
  ·rw [Int.natAbs_neg, Int.natAbs_natCast]; exact this
  ·rw [Int.natAbs_natCast]; exact this
 refine ⟨?_, hroom⟩
 unfold j3
 rw [if_neg (by rw [zl.2 ⟨hn, hd⟩]; simp), if_neg h0]
 congr 1
 unfold V0 qstr
 rw [hden, hnum]
 have e2 : (wr false (numI d / Nat.gcd (numI n) (numI d))).1 = (wz ((numI d / Nat.gcd (numI n) (numI d) : Nat) : Int)).1 := by rw [QU]; rfl
 rw [QU, e2]
theorem QG {n d : List UInt8} {e f : Int} {z w : Int} (hw : w ≠ 0) (hz : (n, e) = wz z) (hd : (d, f) = wz w) : frac (n, e) (d, f) = ([], 14) ∨ (frac (n, e) (d, f) = (qstr (Rat.divInt z w), 0) ∧ vC (Rat.divInt z w)) := by
 unfold frac
 by_cases he : e = 0
 ·by_cases hf : f = 0
  ·subst he; subst hf
   have h1 : (wz z).2 = 0 := by rw [← hz]
   have h2 : (wz w).2 = 0 := by rw [← hd]
   have n1 : n = (wz z).1 := by rw [← hz]
   have n2 : d = (wz w).1 := by rw [← hd]
   have z1 := kD h1
   have z2 := kD h2
   have e1 := yo h1
   have e2 := yo h2
   rw [← n1] at z1 e1
   rw [← n2] at z2 e2
   right
   rw [if_neg (by simp)]
   have := zaf e1 e2 (fun h => hw (by rw [← z2]; have := jx d; omega))
   rw [z1, z2] at this
   exact this
  ·left; rw [if_pos (.inr hf)]
 ·left; rw [if_pos (.inl he)]
section
variable {a b : List UInt8} (ha : errR a = 0) (hb : errR b = 0)
include ha hb
theorem J5 : errI (numR a) = 0 ∧ errI (denR a) = 0 ∧ errI (numR b) = 0 ∧ errI (denR b) = 0 ∧ zI (denR a) ≠ 0 ∧ zI (denR b) ≠ 0 ∧ qX a b = 0 := by
 obtain ⟨a1, a2, _, a4⟩ := qp ha
 obtain ⟨b1, b2, _, b4⟩ := qp hb
 exact ⟨a1, a2, b1, b2, fun h => a4 (by rw [← jx, h]; rfl), fun h => b4 (by rw [← jx, h]; rfl), by unfold qX; rw [if_pos ha]; exact hb⟩
theorem VY : q9 a b = 14 ∨ (q9 a b = 0 ∧ mulI (numR a) (denR b) = wz (zI (numR a) * zI (denR b)) ∧ mulI (numR b) (denR a) = wz (zI (numR b) * zI (denR a)) ∧ (mulI (numR a) (denR b)).2 = 0 ∧ (mulI (numR b) (denR a)).2 = 0) := by
 obtain ⟨a1, a2, b1, b2, a4, b4, h2⟩ := J5 ha hb
 have m1 := kp (zl.2 ⟨a1, b2⟩)
 have m2 := kp (zl.2 ⟨b1, a2⟩)
 unfold q9
 rw [if_neg (by rw [h2]; simp)]
 by_cases h : (mulI (numR a) (denR b)).2 ≠ 0 ∨ (mulI (numR b) (denR a)).2 ≠ 0
 ·left; rw [if_pos h]
 ·right
  rw [if_neg h]
  simp only [not_or, Classical.not_not] at h
  exact ⟨rfl, m1, m2, h.1, h.2⟩
theorem QD : addR a b = ([], 14) ∨ (addR a b = (qstr (qv a + qv b), 0) ∧ vC (qv a + qv b)) := by
 obtain ⟨a1, a2, b1, b2, a4, b4, h2⟩ := J5 ha hb
 unfold addR
 rcases VY ha hb with h | ⟨h, m1, m2, k1, k2⟩
 ·left; rw [h]; rfl
 ·rw [h, if_neg (by simp)]
  rw [m1] at k1
  rw [m2] at k2
  have e1 := yo k1
  have e2 := yo k2
  have := QG (n := (addI (mulI (numR a) (denR b)).1 (mulI (numR b) (denR a)).1).1) (e := (addI (mulI (numR a) (denR b)).1 (mulI (numR b) (denR a)).1).2) (d := (mulI (denR a) (denR b)).1) (f := (mulI (denR a) (denR b)).2)
   (z := zI (numR a) * zI (denR b) + zI (numR b) * zI (denR a)) (w := zI (denR a) * zI (denR b)) (Int.mul_ne_zero a4 b4) (by rw [m1, m2, zaa (zl.2 ⟨e1, e2⟩), kD k1, kD k2]) (by rw [kp (zl.2 ⟨a2, b2⟩)])
  unfold qv
  rw [Rat.divInt_add_divInt _ _ a4 b4]
  exact this
theorem Qs : subR a b = ([], 14) ∨ (subR a b = (qstr (qv a - qv b), 0) ∧ vC (qv a - qv b)) := by
 obtain ⟨a1, a2, b1, b2, a4, b4, h2⟩ := J5 ha hb
 unfold subR
 rcases VY ha hb with h | ⟨h, m1, m2, k1, k2⟩
 ·left; rw [h]; rfl
 ·rw [h, if_neg (by simp)]
  rw [m1] at k1
  rw [m2] at k2
  have e1 := yo k1
  have e2 := yo k2
  have := QG (n := (subI (mulI (numR a) (denR b)).1 (mulI (numR b) (denR a)).1).1) (e := (subI (mulI (numR a) (denR b)).1 (mulI (numR b) (denR a)).1).2) (d := (mulI (denR a) (denR b)).1) (f := (mulI (denR a) (denR b)).2)
   (z := zI (numR a) * zI (denR b) - zI (numR b) * zI (denR a)) (w := zI (denR a) * zI (denR b)) (Int.mul_ne_zero a4 b4) (by rw [m1, m2, za5 (zl.2 ⟨e1, e2⟩), kD k1, kD k2]) (by rw [kp (zl.2 ⟨a2, b2⟩)])
  unfold qv
  rw [Rat.divInt_sub_divInt _ _ a4 b4]
  exact this
theorem KU : mulR a b = ([], 14) ∨ (mulR a b = (qstr (qv a * qv b), 0) ∧ vC (qv a * qv b)) := by
 obtain ⟨a1, a2, b1, b2, a4, b4, h2⟩ := J5 ha hb
 unfold mulR
 rw [h2, if_neg (by simp)]
 have := QG (n := (mulI (numR a) (numR b)).1) (e := (mulI (numR a) (numR b)).2) (d := (mulI (denR a) (denR b)).1) (f := (mulI (denR a) (denR b)).2)
  (z := zI (numR a) * zI (numR b)) (w := zI (denR a) * zI (denR b)) (Int.mul_ne_zero a4 b4) (by rw [kp (zl.2 ⟨a1, b1⟩)]) (by rw [kp (zl.2 ⟨a2, b2⟩)])
 unfold qv
 rw [Rat.divInt_mul_divInt]
 exact this
theorem Va : (qv b = 0 ∧ divR a b = ([], 16)) ∨ (qv b ≠ 0 ∧ (divR a b = ([], 14) ∨ (divR a b = (qstr (qv a / qv b), 0) ∧ vC (qv a / qv b)))) := by
 obtain ⟨a1, a2, b1, b2, a4, b4, h2⟩ := J5 ha hb
 have hq : qv b = 0 ↔ zI (numR b) = 0 := by
  rw [← Rat.num_eq_zero, (xD hb).1]
 have hz : numR b = [48] ↔ zI (numR b) = 0 := by
  rw [vR b1]
  have := jx (numR b)
  omega
 unfold divR
 rw [h2, if_neg (by simp)]
 by_cases h0 : zI (numR b) = 0
 ·left
  exact ⟨hq.2 h0, by rw [if_pos (hz.2 h0)]⟩
 ·right
  refine ⟨fun h => h0 (hq.1 h), ?_⟩
  rw [if_neg (fun h => h0 (hz.1 h))]
  have := QG (n := (mulI (numR a) (denR b)).1) (e := (mulI (numR a) (denR b)).2) (d := (mulI (denR a) (numR b)).1) (f := (mulI (denR a) (numR b)).2)
   (z := zI (numR a) * zI (denR b)) (w := zI (denR a) * zI (numR b)) (Int.mul_ne_zero a4 h0) (by rw [kp (zl.2 ⟨a1, b2⟩)]) (by rw [kp (zl.2 ⟨a2, b1⟩)])
  unfold qv
  rw [Rat.div_def, Rat.inv_divInt, Rat.divInt_mul_divInt]
  exact this
end
theorem xr {a b : List UInt8} (ha : errR a = 0) (hb : errR b = 0) (h : (addR a b).2 = 0) : errR (addR a b).1 = 0 ∧ qv (addR a b).1 = qv a + qv b := by
 rcases QD ha hb with h1 | ⟨h1, h2⟩
 ·rw [h1] at h; cases h
 ·rw [h1]; exact ⟨kA h2, yK h2⟩
theorem yG {a b : List UInt8} (ha : errR a = 0) (hb : errR b = 0) (h : (subR a b).2 = 0) : errR (subR a b).1 = 0 ∧ qv (subR a b).1 = qv a - qv b := by
 rcases Qs ha hb with h1 | ⟨h1, h2⟩
 ·rw [h1] at h; cases h
 ·rw [h1]; exact ⟨kA h2, yK h2⟩
theorem V7 {a b : List UInt8} (ha : errR a = 0) (hb : errR b = 0) (h : (mulR a b).2 = 0) : errR (mulR a b).1 = 0 ∧ qv (mulR a b).1 = qv a * qv b := by
 rcases KU ha hb with h1 | ⟨h1, h2⟩
 ·rw [h1] at h; cases h
 ·rw [h1]; exact ⟨kA h2, yK h2⟩
theorem Q8 {a b : List UInt8} (ha : errR a = 0) (hb : errR b = 0) (h : (divR a b).2 = 0) : qv b ≠ 0 ∧ errR (divR a b).1 = 0 ∧ qv (divR a b).1 = qv a / qv b := by
 rcases Va ha hb with ⟨h0, h1⟩ | ⟨h0, h1 | ⟨h1, h2⟩⟩
 ·rw [h1] at h; cases h
 ·rw [h1] at h; cases h
 ·rw [h1]; exact ⟨h0, kA h2, yK h2⟩
end Go.Nov
end

/- Expressions: depth, strings, sorts. -/
section
namespace Go.Nov
open Go.Sx
def zas (k : Int) (r n : List UInt8) (d : Int) (l : Nat) : Bool :=
 decide (l = 0) && (if k = 1 then decide (errR r = 0) && decide (n = []) && decide (d = 0) else if k = 2 then decide (r = []) && Ul n && dayB d else if k = 3 then decide (r = []) && Ul n && decide (d = 0) else false)
def zal (k : Int) (r n : List UInt8) (d : Int) (ss : List Int) : Int :=
 if za8 k = true then (if r = [] ∧ n = [] ∧ d = 0 ∧ ss = KL k then UL k else 0) else if zas k r n d ss.length = true then 1 else 0
namespace Ex
mutual
def depth : Ex → Nat
 | mk _ _ _ _ s => 1 + Xb s
def Xb : List Ex → Nat
 | [] => 0
 | x :: l => max (depth x) (Xb l)
end
mutual
def Vi : Ex → Nat
 | mk _ r n _ s => r.length + n.length + uN s
def uN : List Ex → Nat
 | [] => 0
 | x :: l => Vi x + uN l
end
mutual
def zar : Ex → Int
 | mk k r n d s => zal k r n d (U1 s)
def U1 : List Ex → List Int
 | [] => []
 | x :: l => zar x :: U1 l
end
mutual
def thin : Ex → Prop
 | mk _ r n _ s => r.length ≤ 2 ^ 48 ∧ n.length ≤ 2 ^ 48 ∧ VF s
def VF : List Ex → Prop
 | [] => True
 | x :: l => thin x ∧ VF l
end
mutual
theorem Kq : ∀ x : Ex, thin x → Vi x ≤ size x * 2 ^ 49
 | mk k r n d s, h => by
  rw [thin] at h
  have := ZI s h.2.2
  rw [Vi, size, Nat.add_mul]
  omega
theorem ZI : ∀ l : List Ex, VF l → uN l ≤ Vv l * 2 ^ 49
 | [], _ => by simp [uN]
 | x :: l, h => by
  rw [VF] at h
  have h1 := Kq x h.1
  have h2 := ZI l h.2
  rw [uN, Vv, Nat.add_mul]
  omega
end
end Ex
end Go.Nov
end

/- Truth values joined. -/
section
namespace Go.Nov
theorem orf {a b : Bool} : (bif a then true else b) = false ↔ a = false ∧ b = false := by cases a <;> simp
end Go.Nov
end

/- Tapes: checks, runs, values, degrees. -/
section
namespace Go.Nov
open Go.Sx
structure TOp where
 kind : Int
 a : Int
 b : Int
 rat : List UInt8
abbrev TOp.nil : TOp := ⟨0, 0, 0, []⟩
def TOp.cell (o : TOp) : Nat → AV
 | 0 => .int .u8 o.kind
 | 1 => .int .i64 o.a
 | 2 => .int .i64 o.b
 | 3 => .str o.rat
 | _ => .undef
def opG (l : List TOp) : Nat → Nat → AV := fun j => (l.getD j TOp.nil).cell
def opS (l : List TOp) : AV := .sl l.length 4 (opG l)
structure Tp where
 n : Int
 ops : List TOp
def Tp.av (t : Tp) : AV := .agg [.int .i64 t.n, opS t.ops]
def ratG (l : List (List UInt8)) : Nat → Nat → AV := fun j _ => .str (l.getD j [])
def ratS (l : List (List UInt8)) : AV := .sl l.length 1 (ratG l)
def okOp (n : Int) (i : Nat) (o : TOp) : Bool :=
 if o.kind = 1 then decide (0 ≤ o.a) && decide (o.a < n) && decide (o.b = 0) && decide (o.rat = [])
 else if o.kind = 2 then decide (errR o.rat = 0) && decide (o.a = 0) && decide (o.b = 0)
 else if 3 ≤ o.kind ∧ o.kind ≤ 6 then decide (0 ≤ o.a) && decide (o.a < i) && (decide (0 ≤ o.b) && decide (o.b < i)) && decide (o.rat = [])
 else false
def wA (t : Tp) (i : Nat) : Bool := (List.range i).all fun k => okOp t.n k (t.ops.getD k TOp.nil)
theorem W6 (t : Tp) (i : Nat) : wA t (i + 1) = (wA t i && okOp t.n i (t.ops.getD i TOp.nil)) := by
 unfold wA
 rw [List.range_succ, List.all_append]
 simp
theorem vQ {t : Tp} {i k : Nat} (h : wA t i = true) (hk : k < i) : okOp t.n k (t.ops.getD k TOp.nil) = true := by
 unfold wA at h
 rw [List.all_eq_true] at h
 exact h k (List.mem_range.2 hk)
def y4 (t : Tp) : Bool := decide (0 ≤ t.n) && decide (t.n ≤ 500) && decide (0 < t.ops.length)
def zf (t : Tp) : Int := if 500 < t.ops.length then 4 else if y4 t && wA t t.ops.length then 0 else 8
theorem zV {t : Tp} : zf t = 0 ↔ t.ops.length ≤ 500 ∧ 0 ≤ t.n ∧ t.n ≤ 500 ∧ 0 < t.ops.length ∧ wA t t.ops.length = true := by
 unfold zf
 by_cases h : 500 < t.ops.length
 ·rw [if_pos h]
  constructor
  ·intro g; cases g
  ·intro g; omega
 ·rw [if_neg h]
  cases hb : (y4 t && wA t t.ops.length) with
  | true =>
   simp only [if_true]
   unfold y4 at hb
   simp only [Bool.and_eq_true, decide_eq_true_eq] at hb
   exact ⟨fun _ => ⟨by omega, hb.1.1.1, hb.1.1.2, hb.1.2, hb.2⟩, fun _ => trivial⟩
  | false =>
   constructor
   ·intro g; simp at g
   ·rintro ⟨_, g1, g2, g3, g4⟩
    unfold y4 at hb
    rw [g4] at hb
    simp [g1, g2, g3] at hb
def arR (k : Int) (a b : List UInt8) : List UInt8 × Int := if k = 3 then addR a b else if k = 4 then subR a b else if k = 5 then mulR a b else divR a b
def zC (inp out : List (List UInt8)) (o : TOp) : List UInt8 × Int :=
 if o.kind = 1 then (inp.getD o.a.toNat [], 0) else if o.kind = 2 then (o.rat, 0) else arR o.kind (out.getD o.a.toNat []) (out.getD o.b.toNat [])
def runF (inp : List (List UInt8)) : List TOp → List (List UInt8) → List (List UInt8) × Int
 | [], out => (out, 0)
 | o :: l, out => if (zC inp out o).2 ≠ 0 then ([], (zC inp out o).2) else runF inp l (out ++ [(zC inp out o).1])
theorem Kg {inp : List (List UInt8)} {ops : List TOp} {k : Nat} (hk : k < ops.length) (out : List (List UInt8)) : runF inp (ops.drop k) out = if (zC inp out (ops.getD k TOp.nil)).2 ≠ 0 then ([], (zC inp out (ops.getD k TOp.nil)).2) else runF inp (ops.drop (k + 1)) (out ++ [(zC inp out (ops.getD k TOp.nil)).1]) := by
 rw [List.drop_eq_getElem_cons hk]
 have e : ops.getD k TOp.nil = ops[k] := by simp [List.getD, hk]
 rw [e]; rfl
theorem XI {inp : List (List UInt8)} {ops : List TOp} (out : List (List UInt8)) : runF inp (ops.drop ops.length) out = (out, 0) := by
 rw [List.drop_length]; rfl
def vZ : List (List UInt8) → Int
 | [] => 0
 | x :: l => if errR x ≠ 0 then errR x else vZ l
theorem Wx {l : List (List UInt8)} {k : Nat} (hk : k < l.length) : vZ (l.drop k) = if errR (l.getD k []) ≠ 0 then errR (l.getD k []) else vZ (l.drop (k + 1)) := by
 rw [List.drop_eq_getElem_cons hk]
 have e : l.getD k [] = l[k] := by simp [List.getD, hk]
 rw [e]; rfl
theorem Qr : ∀ {l : List (List UInt8)}, vZ l = 0 ↔ ∀ x ∈ l, errR x = 0
 | [] => by simp [vZ]
 | x :: l => by
  unfold vZ
  by_cases h : errR x = 0
  ·rw [if_neg (fun g => g h), Qr]
   simp [h]
  ·rw [if_pos h]
   simp [h]
def preT (t : Tp) (inp : List (List UInt8)) : Int := if zf t ≠ 0 then zf t else if (inp.length : Int) ≠ t.n then 2 else vZ inp
def trun (t : Tp) (inp : List (List UInt8)) : List (List UInt8) × Int := if preT t inp ≠ 0 then ([], preT t inp) else runF inp t.ops []
def qK (r : List (List UInt8) × Int) : List UInt8 × Int := if r.2 ≠ 0 then ([], r.2) else (r.1.getD (r.1.length - 1) [], 0)
def zw (t : Tp) (inp : List (List UInt8)) : List UInt8 × Int := qK (trun t inp)
def degS (i : Int) (o : TOp) (out : List Int) : Int :=
 if o.kind = 1 then (if o.a = i then 1 else 0) else if o.kind = 2 then 0
 else if out.getD o.a.toNat 0 < 0 ∨ out.getD o.b.toNat 0 < 0 then -1
 else if o.kind = 5 then min (out.getD o.a.toNat 0 + out.getD o.b.toNat 0) 1000
 else if o.kind = 6 then (if 0 < out.getD o.b.toNat 0 then -1 else out.getD o.a.toNat 0)
 else max (out.getD o.a.toNat 0) (out.getD o.b.toNat 0)
def degF (i : Int) : List TOp → List Int → List Int
 | [], out => out
 | o :: l, out => degF i l (out ++ [degS i o out])
theorem KC {i : Int} {ops : List TOp} {k : Nat} (hk : k < ops.length) (out : List Int) : degF i (ops.drop k) out = degF i (ops.drop (k + 1)) (out ++ [degS i (ops.getD k TOp.nil) out]) := by
 rw [List.drop_eq_getElem_cons hk]
 have e : ops.getD k TOp.nil = ops[k] := by simp [List.getD, hk]
 rw [e]; rfl
theorem Xd {i : Int} {ops : List TOp} (out : List Int) : degF i (ops.drop ops.length) out = out := by
 rw [List.drop_length]; rfl
def degT (t : Tp) (i : Int) : Int × Int := if zf t ≠ 0 then (0, zf t) else if 0 ≤ i ∧ i < t.n then ((degF i t.ops []).getD (t.ops.length - 1) 0, 0) else (0, 2)
def dgF (l : List Int) : Nat → Int := fun j => l.getD j 0
def rtF (l : List (List UInt8)) : Nat → List UInt8 := fun j => l.getD j []
def degB (d : Int) : Prop := -1 ≤ d ∧ d ≤ 1000
theorem za2 {i : Int} {o : TOp} {out : List Int} (h : ∀ k, degB (out.getD k 0)) : degB (degS i o out) := by
 unfold degS
 have h1 := h o.a.toNat
 have h2 := h o.b.toNat
 revert h1 h2
 generalize out.getD o.a.toNat 0 = p
 generalize out.getD o.b.toNat 0 = q
 rintro ⟨h1, h2⟩ ⟨h3, h4⟩
 unfold degB
 repeat' split
 all_goals (first | omega | (simp only [Int.min_def, Int.max_def]; repeat' split) )
 all_goals omega
end Go.Nov
end

/- Expressions: their values. -/
section
namespace Go.Nov
open Go.Sx
structure Ev where
 v : List UInt8
 e : Int
 b : Bool
 g : Int
abbrev Ev.nil : Ev := ⟨[], 0, false, 0⟩
def zaq (k : Int) (a b : List UInt8) : List UInt8 × Int :=
 if k = 7 then (if (cmpR a b).2 ≠ 0 then ([], (cmpR a b).2) else (if (cmpR a b).1 < 0 then b else a, 0))
 else (if (cmpR b a).2 ≠ 0 then ([], (cmpR b a).2) else (if (cmpR b a).1 < 0 then b else a, 0))
def opR (k : Int) (a b : List UInt8) : List UInt8 × Int := if k = 4 then addR a b else if k = 5 then subR a b else if k = 6 then mulR a b else zaq k a b
def fixR (f : List Fx) (a : List UInt8) (d : Int) : List UInt8 × Int := if (Um f a d).2 = true then ((Um f a d).1, 0) else ([], 30)
def Uq {α : Type} (z : α) (l0 l1 : Ev) (f : List UInt8 → List UInt8 → α × Int) : α × Int := if l0.e ≠ 0 then (z, l0.e) else if l1.e ≠ 0 then (z, l1.e) else f l0.v l1.v
def valN (f : List Fx) (day k : Int) (r n : List UInt8) (d : Int) (l : List Ev) : List UInt8 × Int :=
 if k = 1 then (r, 0) else if k = 2 then fixR f n d else if k = 3 then fixR f n day
 else if k = 9 then (if (l.getD 0 Ev.nil).g ≠ 0 then ([], (l.getD 0 Ev.nil).g) else if (l.getD 0 Ev.nil).b then ((l.getD 1 Ev.nil).v, (l.getD 1 Ev.nil).e) else ((l.getD 2 Ev.nil).v, (l.getD 2 Ev.nil).e))
 else Uq [] (l.getD 0 Ev.nil) (l.getD 1 Ev.nil) (opR k)
def zau (k : Int) (a b : List UInt8) : Bool × Int := if (cmpR a b).2 ≠ 0 then (false, (cmpR a b).2) else (if k = 11 then decide ((cmpR a b).1 < 0) else decide ((cmpR a b).1 = 0), 0)
def hldN (k : Int) (l : List Ev) : Bool × Int :=
 if 13 ≤ k then (if (l.getD 0 Ev.nil).g ≠ 0 then (false, (l.getD 0 Ev.nil).g) else if k = 15 then (!(l.getD 0 Ev.nil).b, 0)
  else if (l.getD 0 Ev.nil).b = decide (k = 14) then ((l.getD 0 Ev.nil).b, 0) else ((l.getD 1 Ev.nil).b, (l.getD 1 Ev.nil).g))
 else Uq false (l.getD 0 Ev.nil) (l.getD 1 Ev.nil) (zau k)
def evN (f : List Fx) (day k : Int) (r n : List UInt8) (d : Int) (l : List Ev) : Ev := ⟨(valN f day k r n d l).1, (valN f day k r n d l).2, (hldN k l).1, (hldN k l).2⟩
namespace Ex
mutual
def ev (f : List Fx) (day : Int) : Ex → Ev
 | mk k r n d s => evN f day k r n d (evs f day s)
def evs (f : List Fx) (day : Int) : List Ex → List Ev
 | [] => []
 | x :: l => ev f day x :: evs f day l
end
end Ex
theorem qL {a : List UInt8} (h : errR a = 0) : a.length ≤ 2003 := by
 have h1 := (xD h).2.2.1
 rw [← h1]
 unfold qstr wz
 have g1 := vg (decide ((qv a).num < 0)) (qv a).num.natAbs
 have g2 := vg (decide (((qv a).den : Int) < 0)) ((qv a).den : Int).natAbs
 split
 ·omega
 ·simp only [List.length_append, List.length_cons, List.length_nil]
  omega
end Go.Nov
end

/- Rationals as the reference computes them. -/
section
namespace Go.Nov
def negS (a : List UInt8) : List UInt8 := if a = [48] then a else if a.getD 0 0 = 45 then a.drop 1 else [45] ++ a
end Go.Nov
end

/- Tapes: the numbers of a run are canonical; differences. -/
section
namespace Go.Nov
open Go.Sx
def allQ (l : List (List UInt8)) : Prop := ∀ x ∈ l, errR x = 0
theorem qM {l : List (List UInt8)} (h : allQ l) {i : Nat} (hi : i < l.length) : errR (l.getD i []) = 0 := h _ (by simp [List.getD, hi])
theorem ZK {l : List (List UInt8)} (h : allQ l) {x : List UInt8} (hx : errR x = 0) : allQ (l ++ [x]) := by
 intro y hy
 rcases List.mem_append.1 hy with g | g
 ·exact h y g
 ·rw [List.mem_singleton.1 g]; exact hx
theorem WJ {k : Int} {a b : List UInt8} (ha : errR a = 0) (hb : errR b = 0) (h : (arR k a b).2 = 0) : errR (arR k a b).1 = 0 := by
 unfold arR at h ⊢
 split
 ·rename_i g; rw [if_pos g] at h; exact (xr ha hb h).1
 ·rename_i g
  rw [if_neg g] at h
  split
  ·rename_i g; rw [if_pos g] at h; exact (yG ha hb h).1
  ·rename_i g
   rw [if_neg g] at h
   split
   ·rename_i g; rw [if_pos g] at h; exact (V7 ha hb h).1
   ·rename_i g
    rw [if_neg g] at h
    exact (Q8 ha hb h).2.1
theorem VU {k : Int} {a b : List UInt8} (ha : errR a = 0) (hb : errR b = 0) (h : (arR k a b).2 ≠ 0) : (arR k a b).1 = [] := by
 unfold arR at h ⊢
 have h1 := QD ha hb
 have h2 := Qs ha hb
 have h3 := KU ha hb
 have h4 := Va ha hb
 repeat' split
 ·rcases h1 with g | g
  ·rw [g]
  ·rename_i q; rw [if_pos q, g.1] at h; exact absurd rfl h
 ·rename_i q1 q2
  rw [if_neg q1, if_pos q2] at h
  rcases h2 with g | g
  ·rw [g]
  ·rw [g.1] at h; exact absurd rfl h
 ·rename_i q1 q2 q3
  rw [if_neg q1, if_neg q2, if_pos q3] at h
  rcases h3 with g | g
  ·rw [g]
  ·rw [g.1] at h; exact absurd rfl h
 ·rename_i q1 q2 q3
  rw [if_neg q1, if_neg q2, if_neg q3] at h
  rcases h4 with g | ⟨_, g | g⟩
  ·rw [g.2]
  ·rw [g]
  ·rw [g.1] at h; exact absurd rfl h
theorem qR {n : Int} {i : Nat} {o : TOp} (h : okOp n i o = true) : (o.kind = 1 ∧ 0 ≤ o.a ∧ o.a < n ∧ o.b = 0 ∧ o.rat = []) ∨ (o.kind = 2 ∧ errR o.rat = 0 ∧ o.a = 0 ∧ o.b = 0) ∨ ((o.kind = 3 ∨ o.kind = 4 ∨ o.kind = 5 ∨ o.kind = 6) ∧ 0 ≤ o.a ∧ o.a < i ∧ 0 ≤ o.b ∧ o.b < i ∧ o.rat = []) := by
 unfold okOp at h
 split at h
 ·rename_i g
  simp only [Bool.and_eq_true, decide_eq_true_eq] at h
  exact .inl ⟨g, h.1.1.1, h.1.1.2, h.1.2, h.2⟩
 ·split at h
  ·rename_i g
   simp only [Bool.and_eq_true, decide_eq_true_eq] at h
   exact .inr (.inl ⟨g, h.1.1, h.1.2, h.2⟩)
  ·split at h
   ·rename_i g
    simp only [Bool.and_eq_true, decide_eq_true_eq] at h
    exact .inr (.inr ⟨by omega, h.1.1.1, h.1.1.2, h.1.2.1, h.1.2.2, h.2⟩)
   ·cases h
theorem QK {n : Int} {inp out : List (List UInt8)} {o : TOp} (hi : allQ inp) (hn : (inp.length : Int) = n) (ho : allQ out) (h : okOp n out.length o = true) (h2 : (zC inp out o).2 = 0) : errR (zC inp out o).1 = 0 := by
 unfold zC at h2 ⊢
 rcases qR h with ⟨g, g1, g2, _⟩ | ⟨g, g1, _⟩ | ⟨g, g1, g2, g3, g4, _⟩
 ·rw [if_pos g]
  exact qM hi (by omega)
 ·rw [if_neg (by omega), if_pos g]
  exact g1
 ·rw [if_neg (by omega), if_neg (by omega)] at h2 ⊢
  exact WJ (qM ho (by omega)) (qM ho (by omega)) h2
theorem yP {l : List (List UInt8)} (h : allQ l) {x : List UInt8} (hx : errR x = 0) (i : Nat) : allQ (l.set i x) := by
 intro y hy
 rcases List.mem_or_eq_of_mem_set hy with g | g
 ·exact h y g
 ·rw [g]; exact hx
def shL (h : List UInt8) : List Int → List (List UInt8) → List (List UInt8) × Int
 | [], x => (x, 0)
 | i :: l, x => if (addR (x.getD i.toNat []) h).2 ≠ 0 then ([], (addR (x.getD i.toNat []) h).2) else shL h l (x.set i.toNat (addR (x.getD i.toNat []) h).1)
def atT (t : Tp) (inp : List (List UInt8)) (h : List UInt8) (at_ : List Int) : List UInt8 × Int := if (shL h at_ inp).2 ≠ 0 then ([], (shL h at_ inp).2) else qK (runF (shL h at_ inp).1 t.ops [])
def qP (t : Tp) (at_ : List Int) : Bool := at_.all fun i => decide (0 ≤ i) && decide (i < t.n)
def begT (t : Tp) (inp : List (List UInt8)) (at_ : List Int) (h : List UInt8) : Int := if (zw t inp).2 ≠ 0 then (zw t inp).2 else if qP t at_ then (if errR h ≠ 0 then errR h else if h = [48] then 16 else 0) else 2
def endR (q : List UInt8 × Int) : List UInt8 × Int := if q.2 ≠ 0 then ([], q.2) else (q.1, 0)
def stpA (e : Int) (r : List UInt8 × Int) : List UInt8 × Int := if e ≠ 0 then ([], e) else r
def xF (t : Tp) (inp : List (List UInt8)) (i : Int) (h : List UInt8) : List UInt8 × Int := stp (atT t inp h [i]).2 subR (atT t inp h [i]).1 (zw t inp).1
def z3 (t : Tp) (inp : List (List UInt8)) (i : Int) (h : List UInt8) : List UInt8 × Int := if begT t inp [i] h ≠ 0 then ([], begT t inp [i] h) else endR (stp (xF t inp i h).2 divR (xF t inp i h).1 h)
def croA (t : Tp) (inp : List (List UInt8)) (i k : Int) (h : List UInt8) : List UInt8 × Int := stpA (atT t inp h [i, k]).2 (atT t inp h [i])
def croB (t : Tp) (inp : List (List UInt8)) (i k : Int) (h : List UInt8) : List UInt8 × Int := stpA (croA t inp i k h).2 (atT t inp h [k])
def croC (t : Tp) (inp : List (List UInt8)) (i k : Int) (h : List UInt8) : List UInt8 × Int := stp (croB t inp i k h).2 subR (atT t inp h [i, k]).1 (croA t inp i k h).1
def croD (t : Tp) (inp : List (List UInt8)) (i k : Int) (h : List UInt8) : List UInt8 × Int := stp (croC t inp i k h).2 subR (croC t inp i k h).1 (croB t inp i k h).1
def croE (t : Tp) (inp : List (List UInt8)) (i k : Int) (h : List UInt8) : List UInt8 × Int := stp (croD t inp i k h).2 addR (croD t inp i k h).1 (zw t inp).1
def croF (t : Tp) (inp : List (List UInt8)) (i k : Int) (h : List UInt8) : List UInt8 × Int := stp (croE t inp i k h).2 mulR h h
def croT (t : Tp) (inp : List (List UInt8)) (i k : Int) (h : List UInt8) : List UInt8 × Int := if begT t inp [i, k] h ≠ 0 then ([], begT t inp [i, k] h) else endR (stp (croF t inp i k h).2 divR (croE t inp i k h).1 (croF t inp i k h).1)
end Go.Nov
end

/- Tapes over the rationals: runs, and polynomials of a shift. -/
section
namespace Go.Nov
open Go.Sx
def arQ (k : Int) (a b : Rat) : Rat := if k = 3 then a + b else if k = 4 then a - b else if k = 5 then a * b else a / b
def X4 (inp out : List Rat) (o : TOp) : Rat :=
 if o.kind = 1 then inp.getD o.a.toNat 0 else if o.kind = 2 then qv o.rat else arQ o.kind (out.getD o.a.toNat 0) (out.getD o.b.toNat 0)
def runQ (inp : List Rat) : List TOp → List Rat → List Rat
 | [], out => out
 | o :: l, out => runQ inp l (out ++ [X4 inp out o])
theorem VA {k : Int} {a b : List UInt8} (ha : errR a = 0) (hb : errR b = 0) (h : (arR k a b).2 = 0) : qv (arR k a b).1 = arQ k (qv a) (qv b) := by
 unfold arR at h ⊢
 unfold arQ
 split
 ·rename_i g; rw [if_pos g] at h; exact (xr ha hb h).2
 ·rename_i g
  rw [if_neg g] at h
  split
  ·rename_i g; rw [if_pos g] at h; exact (yG ha hb h).2
  ·rename_i g
   rw [if_neg g] at h
   split
   ·rename_i g; rw [if_pos g] at h; exact (V7 ha hb h).2
   ·rename_i g
    rw [if_neg g] at h
    exact (Q8 ha hb h).2.2
theorem kj (l : List (List UInt8)) {i : Nat} (hi : i < l.length) : (l.map qv).getD i 0 = qv (l.getD i []) := by
 simp [List.getD, hi]
theorem YP {n : Int} {inp out : List (List UInt8)} {o : TOp} (hi : allQ inp) (hn : (inp.length : Int) = n) (ho : allQ out) (h : okOp n out.length o = true) (h2 : (zC inp out o).2 = 0) : qv (zC inp out o).1 = X4 (inp.map qv) (out.map qv) o := by
 unfold zC at h2 ⊢
 unfold X4
 rcases qR h with ⟨g, g1, g2, _⟩ | ⟨g, g1, _⟩ | ⟨g, g1, g2, g3, g4, _⟩
 ·rw [if_pos g, if_pos g, kj inp (by omega)]
 ·rw [if_neg (by omega), if_pos g, if_neg (by omega), if_pos g]
 ·rw [if_neg (by omega), if_neg (by omega)] at h2 ⊢
  rw [if_neg (by omega), if_neg (by omega), kj out (by omega), kj out (by omega)]
  exact VA (qM ho (by omega)) (qM ho (by omega)) h2
def wC (n : Int) : Nat → List TOp → Prop
 | _, [] => True
 | k, o :: l => okOp n k o = true ∧ wC n (k + 1) l
theorem jg {t : Tp} (h : wA t t.ops.length = true) : ∀ (l : List TOp) (k : Nat), t.ops.drop k = l → wC t.n k l
 | [], _, _ => trivial
 | o :: l, k, e => by
  have hk : k < t.ops.length := by
   rcases Nat.lt_or_ge k t.ops.length with g | g
   ·exact g
   ·rw [List.drop_eq_nil_of_le g] at e; cases e
  rw [List.drop_eq_getElem_cons hk] at e
  simp only [List.cons.injEq] at e
  refine ⟨?_, jg h l (k + 1) e.2⟩
  have := vQ h hk
  rw [show t.ops.getD k TOp.nil = t.ops[k] by simp [List.getD, hk], e.1] at this
  exact this
theorem xR {n : Int} {inp : List (List UInt8)} (hi : allQ inp) (hn : (inp.length : Int) = n) : ∀ (l : List TOp) (out r : List (List UInt8)), allQ out → wC n out.length l → runF inp l out = (r, 0) → allQ r ∧ r.map qv = runQ (inp.map qv) l (out.map qv) ∧ r.length = out.length + l.length
 | [], out, r, ho, _, e => by
  simp only [runF, Prod.mk.injEq, and_true] at e
  subst e
  exact ⟨ho, rfl, rfl⟩
 | o :: l, out, r, ho, hk, e => by
  rw [runF] at e
  by_cases g : (zC inp out o).2 = 0
  ·rw [if_neg (fun q => q g)] at e
   have h1 := QK hi hn ho hk.1 g
   have h2 := YP hi hn ho hk.1 g
   obtain ⟨a1, a2, a3⟩ := xR hi hn l (out ++ [(zC inp out o).1]) r (ZK ho h1) (by simpa using hk.2) e
   refine ⟨a1, ?_, ?_⟩
   ·rw [a2, List.map_append, List.map_singleton, h2]; rfl
   ·rw [a3]; simp; omega
  ·rw [if_pos g] at e
   simp only [Prod.mk.injEq] at e
   exact absurd e.2 g
def VQ (t : Tp) (X : List Rat) : Rat := (runQ X t.ops []).getD (t.ops.length - 1) 0
end Go.Nov
end

/- Differences of tapes: what they are over the rationals; the laws. -/
section
namespace Go.Nov
open Go.Sx
theorem JV {t : Tp} {inp : List (List UInt8)} : preT t inp = 0 ↔ zf t = 0 ∧ (inp.length : Int) = t.n ∧ allQ inp := by
 unfold preT
 by_cases h : zf t = 0
 ·rw [if_neg (fun g => g h)]
  by_cases h1 : (inp.length : Int) = t.n
  ·rw [if_neg (fun g => g h1), Qr]
   exact ⟨fun g => ⟨h, h1, g⟩, fun g => g.2.2⟩
  ·rw [if_pos h1]
   constructor
   ·intro g; cases g
   ·intro g; exact absurd g.2.1 h1
 ·rw [if_pos h]
  exact ⟨fun g => absurd g h, fun g => absurd g.1 h⟩
theorem xn {t : Tp} {x : List (List UInt8)} (hc : zf t = 0) (hn : (x.length : Int) = t.n) (hx : allQ x) (h : (qK (runF x t.ops [])).2 = 0) : errR (qK (runF x t.ops [])).1 = 0 ∧ qv (qK (runF x t.ops [])).1 = VQ t (x.map qv) := by
 obtain ⟨c1, c2, c3, c4, c5⟩ := zV.1 hc
 unfold qK at h ⊢
 by_cases g : (runF x t.ops []).2 = 0
 ·rw [if_neg (fun q => q g)]
  have e : runF x t.ops [] = ((runF x t.ops []).1, 0) := by rw [← g]
  obtain ⟨a1, a2, a3⟩ := xR (n := t.n) hx hn t.ops [] _ (fun y hy => absurd hy (by simp)) (jg c5 t.ops 0 (List.drop_zero)) e
  simp only [List.length_nil, Nat.zero_add] at a3
  have hl : (runF x t.ops []).1.length - 1 < (runF x t.ops []).1.length := by omega
  refine ⟨qM a1 hl, ?_⟩
  unfold VQ
  rw [← kj _ hl, a2, a3]
  rfl
 ·rw [if_pos g] at h; exact absurd h g
theorem xx {t : Tp} {inp : List (List UInt8)} (h : (zw t inp).2 = 0) : zf t = 0 ∧ (inp.length : Int) = t.n ∧ allQ inp ∧ errR (zw t inp).1 = 0 ∧ qv (zw t inp).1 = VQ t (inp.map qv) := by
 unfold zw trun at h ⊢
 by_cases g : preT t inp = 0
 ·rw [if_neg (fun q => q g)] at h ⊢
  obtain ⟨p1, p2, p3⟩ := JV.1 g
  obtain ⟨a, b⟩ := xn p1 p2 p3 h
  exact ⟨p1, p2, p3, a, b⟩
 ·rw [if_pos g] at h
  unfold qK at h
  rw [if_pos g] at h
  exact absurd h g
theorem ZW {t : Tp} {inp : List (List UInt8)} (p1 : zf t = 0) (p2 : (inp.length : Int) = t.n) (p3 : allQ inp) : zw t inp = qK (runF inp t.ops []) := by
 unfold zw trun
 rw [if_neg (fun q => q (JV.2 ⟨p1, p2, p3⟩))]
def addX (h : Rat) : List Int → List Rat → List Rat
 | [], X => X
 | i :: l, X => addX h l (X.set i.toNat (X.getD i.toNat 0 + h))
theorem Vu {h : List UInt8} (hh : errR h = 0) {n : Int} : ∀ (l : List Int) (x : List (List UInt8)), allQ x → (x.length : Int) = n → (∀ i ∈ l, 0 ≤ i ∧ i < n) → (shL h l x).2 = 0 → allQ (shL h l x).1 ∧ ((shL h l x).1.length : Int) = n ∧ (shL h l x).1.map qv = addX (qv h) l (x.map qv)
 | [], x, hx, hn, _, _ => ⟨hx, hn, rfl⟩
 | i :: l, x, hx, hn, hl, h0 => by
  have hi := hl i (by simp)
  have hil : i.toNat < x.length := by omega
  rw [shL] at h0 ⊢
  by_cases g : (addR (x.getD i.toNat []) h).2 = 0
  ·rw [if_neg (fun q => q g)] at h0 ⊢
   obtain ⟨a, b⟩ := xr (qM hx hil) hh g
   obtain ⟨c1, c2, c3⟩ := Vu hh l _ (yP hx a i.toNat) (by simpa using hn) (fun j hj => hl j (by simp [hj])) h0
   refine ⟨c1, c2, ?_⟩
   rw [c3, addX, List.map_set, b, kj x hil]
  ·rw [if_pos g] at h0; exact absurd h0 g
theorem yi {t : Tp} {inp : List (List UInt8)} {h : List UInt8} {l : List Int} (hh : errR h = 0) (p1 : zf t = 0) (p2 : (inp.length : Int) = t.n) (p3 : allQ inp) (hl : ∀ i ∈ l, 0 ≤ i ∧ i < t.n) (h0 : (atT t inp h l).2 = 0) :
  errR (atT t inp h l).1 = 0 ∧ qv (atT t inp h l).1 = VQ t (addX (qv h) l (inp.map qv)) := by
 unfold atT at h0 ⊢
 by_cases g : (shL h l inp).2 = 0
 ·rw [if_neg (fun q => q g)] at h0 ⊢
  obtain ⟨a, b, c⟩ := Vu hh l inp p3 p2 hl g
  obtain ⟨d, e⟩ := xn p1 b a h0
  exact ⟨d, by rw [e, c]⟩
 ·rw [if_pos g] at h0; exact absurd h0 g
theorem Y3 : errR [48] = 0 ∧ qv [48] = 0 := by decide +kernel
theorem UU {a : List UInt8} (h : errR a = 0) (hq : qv a = 0) : a = [48] := Yu h Y3.1 (by rw [hq, Y3.2])
theorem Y2 {t : Tp} {inp : List (List UInt8)} {l : List Int} {h : List UInt8} (h0 : begT t inp l h = 0) : (zw t inp).2 = 0 ∧ (∀ i ∈ l, 0 ≤ i ∧ i < t.n) ∧ errR h = 0 ∧ qv h ≠ 0 := by
 unfold begT at h0
 by_cases g : (zw t inp).2 = 0
 ·rw [if_neg (fun q => q g)] at h0
  by_cases g2 : qP t l = true
  ·rw [if_pos g2] at h0
   by_cases g3 : errR h = 0
   ·rw [if_neg (fun q => q g3)] at h0
    by_cases g4 : h = [48]
    ·rw [if_pos g4] at h0; cases h0
    ·refine ⟨g, fun i hi => ?_, g3, fun q => g4 (UU g3 q)⟩
     unfold qP at g2
     rw [List.all_eq_true] at g2
     simpa using g2 i hi
   ·rw [if_pos g3] at h0; exact absurd h0 g3
  ·rw [if_neg g2] at h0; cases h0
 ·rw [if_pos g] at h0; exact absurd h0 g
theorem U7 {q : List UInt8 × Int} (h : (endR q).2 = 0) : q.2 = 0 ∧ (endR q).1 = q.1 := by
 unfold endR at h ⊢
 by_cases g : q.2 = 0
 ·rw [if_neg (fun k => k g)]; exact ⟨g, rfl⟩
 ·rw [if_pos g] at h; exact absurd h g
theorem V2 {e : Int} {f : List UInt8 → List UInt8 → List UInt8 × Int} {x y : List UInt8} (h : (stp e f x y).2 = 0) : e = 0 ∧ stp e f x y = f x y := by
 unfold stp at h ⊢
 by_cases g : e = 0
 ·rw [if_neg (fun k => k g)]; exact ⟨g, rfl⟩
 ·rw [if_pos g] at h; exact absurd h g
structure Dok (t : Tp) (inp : List (List UInt8)) (l : List Int) (h : List UInt8) : Prop where
 c : zf t = 0
 n : (inp.length : Int) = t.n
 q : allQ inp
 l : ∀ i ∈ l, 0 ≤ i ∧ i < t.n
 h0 : errR h = 0
 hq : qv h ≠ 0
theorem ZS {t : Tp} {inp : List (List UInt8)} {l : List Int} {h : List UInt8} (h0 : begT t inp l h = 0) : Dok t inp l h ∧ errR (zw t inp).1 = 0 ∧ qv (zw t inp).1 = VQ t (inp.map qv) := by
 obtain ⟨a, b, c, d⟩ := Y2 h0
 obtain ⟨p1, p2, p3, p4, p5⟩ := xx a
 exact ⟨⟨p1, p2, p3, b, c, d⟩, p4, p5⟩
theorem vS {t : Tp} {inp : List (List UInt8)} {i : Int} {h : List UInt8} (h0 : (z3 t inp i h).2 = 0) : Dok t inp [i] h ∧ errR (z3 t inp i h).1 = 0 ∧ qv (z3 t inp i h).1 = (VQ t (addX (qv h) [i] (inp.map qv)) - VQ t (inp.map qv)) / qv h := by
 unfold z3 at h0 ⊢
 by_cases g : begT t inp [i] h = 0
 ·rw [if_neg (fun q => q g)] at h0 ⊢
  obtain ⟨D, v1, v2⟩ := ZS g
  obtain ⟨e1, e2⟩ := U7 h0
  rw [e2]
  obtain ⟨e3, e4⟩ := V2 e1
  rw [e4] at e1 ⊢
  unfold xF at e1 e3 ⊢
  obtain ⟨e5, e6⟩ := V2 e3
  rw [e6] at e1 e3 ⊢
  obtain ⟨a1, a2⟩ := yi D.h0 D.c D.n D.q D.l e5
  obtain ⟨b1, b2⟩ := yG a1 v1 e3
  obtain ⟨_, c1, c2⟩ := Q8 b1 D.h0 e1
  exact ⟨D, c1, by rw [c2, b2, a2, v2]⟩
 ·rw [if_pos g] at h0; exact absurd h0 g
end Go.Nov
end

/- Tapes: differences and changes of the value; sums of tapes. -/
section
namespace Go.Nov
open Go.Sx
structure ShiftOk (t : Tp) (inp : List (List UInt8)) (i : Int) (h : List UInt8) : Prop where
 i0 : 0 ≤ i
 il : i.toNat < inp.length
 f0 : (addR (inp.getD i.toNat []) h).2 = 0
 hm : allQ (inp.set i.toNat (addR (inp.getD i.toNat []) h).1)
 g0 : (zw t inp).2 = 0
 j0 : (zw t (inp.set i.toNat (addR (inp.getD i.toNat []) h).1)).2 = 0
 k0 : (subR (zw t (inp.set i.toNat (addR (inp.getD i.toNat []) h).1)).1 (zw t inp).1).2 = 0
 l0 : (mulR (z3 t inp i h).1 h).2 = 14 ∨ (mulR (z3 t inp i h).1 h).2 = 0 ∧ (mulR (z3 t inp i h).1 h).1 = (subR (zw t (inp.set i.toNat (addR (inp.getD i.toNat []) h).1)).1 (zw t inp).1).1
 m0 : (z3 t (inp.set i.toNat (addR (inp.getD i.toNat []) h).1) i (negS h)).2 = 14 ∨ (z3 t (inp.set i.toNat (addR (inp.getD i.toNat []) h).1) i (negS h)).2 = 0 ∧ (z3 t (inp.set i.toNat (addR (inp.getD i.toNat []) h).1) i (negS h)).1 = (z3 t inp i h).1
theorem at_one {t : Tp} {inp : List (List UInt8)} {h : List UInt8} {i : Int} (g : (addR (inp.getD i.toNat []) h).2 = 0) : atT t inp h [i] = qK (runF (inp.set i.toNat (addR (inp.getD i.toNat []) h).1) t.ops []) := by
 unfold atT
 have e : shL h [i] inp = (inp.set i.toNat (addR (inp.getD i.toNat []) h).1, 0) := by
  rw [shL, if_neg (fun q => q g)]; rfl
 rw [e, if_neg (by simp)]
theorem zab {t : Tp} {inp : List (List UInt8)} {h : List UInt8} {i : Int} (g : (addR (inp.getD i.toNat []) h).2 = 14) : atT t inp h [i] = ([], 14) := by
 unfold atT
 have e : shL h [i] inp = ([], 14) := by
  rw [shL, if_pos (by rw [g]; decide), g]
 rw [e, if_pos (by simp)]
theorem Xp {t : Tp} {inp : List (List UInt8)} {i : Int} {h : List UInt8} (D : Dok t inp [i] h) (hv : (zw t inp).2 = 0) (ha : (atT t inp h [i]).2 = 14 ∨ (atT t inp h [i]).2 = 0) : (z3 t inp i h).2 = 14 ∨ (z3 t inp i h).2 = 0 := by
 obtain ⟨_, _, _, v1, v2⟩ := xx hv
 have hb : begT t inp [i] h = 0 := by
  unfold begT
  rw [if_neg (fun q => q hv), if_pos, if_neg (fun q => q D.h0), if_neg]
  ·intro g; exact D.hq (by rw [g]; exact Y3.2)
  ·unfold qP
   rw [List.all_eq_true]
   intro j hj
   have := D.l j hj
   simp [this.1, this.2]
 unfold z3
 rw [if_neg (fun q => q hb)]
 have he : ∀ q : List UInt8 × Int, q.2 = 14 ∨ q.2 = 0 → (endR q).2 = 14 ∨ (endR q).2 = 0 := by
  intro q hq
  unfold endR
  split
  ·rename_i g; exact hq.elim .inl fun g2 => absurd g2 g
  ·exact .inr rfl
 refine he _ ?_
 rcases ha with g | g
 ·have eD : xF t inp i h = ([], 14) := by unfold xF stp; rw [if_pos (by rw [g]; decide), g]
  left
  unfold stp
  rw [eD]
  simp
 ·have eD : xF t inp i h = subR (atT t inp h [i]).1 (zw t inp).1 := by unfold xF stp; rw [if_neg (fun q => q g)]
  rw [eD]
  obtain ⟨a1, a2⟩ := yi D.h0 D.c D.n D.q D.l g
  rcases Qs a1 v1 with g2 | ⟨g2, g3⟩
  ·left; unfold stp; rw [g2]; simp
  ·have s0 : (subR (atT t inp h [i]).1 (zw t inp).1).2 = 0 := by rw [g2]
   obtain ⟨s1, s2⟩ := yG a1 v1 s0
   unfold stp
   rw [if_neg (fun q => q s0)]
   rcases Va s1 D.h0 with ⟨g4, _⟩ | ⟨_, g4 | ⟨g4, _⟩⟩
   ·exact absurd g4 D.hq
   ·left; rw [g4]
   ·right; rw [g4]
end Go.Nov
end

/- Tapes: an operation of two tapes. -/
section
namespace Go.Nov
open Go.Sx
def shO (n : Int) (o : TOp) : TOp := if 3 ≤ o.kind then ⟨o.kind, o.a + n, o.b + n, o.rat⟩ else o
def zH (k : Int) (t u : Tp) : Tp := ⟨t.n, t.ops ++ u.ops.map (shO t.ops.length) ++ [⟨k, (t.ops.length : Int) - 1, (t.ops.length : Int) + u.ops.length - 1, []⟩]⟩
theorem u3 {inp : List (List UInt8)} : ∀ (l1 l2 : List TOp) (out : List (List UInt8)), runF inp (l1 ++ l2) out = if (runF inp l1 out).2 ≠ 0 then ([], (runF inp l1 out).2) else runF inp l2 (runF inp l1 out).1
 | [], l2, out => by simp [runF]
 | o :: l1, l2, out => by
  by_cases h : (zC inp out o).2 = 0
  ·have e1 : ∀ l : List TOp, runF inp (o :: l) out = runF inp l (out ++ [(zC inp out o).1]) := fun l => by rw [runF, if_neg (fun g => g h)]
   rw [List.cons_append, e1, e1, u3 l1 l2]
  ·have e1 : ∀ l : List TOp, runF inp (o :: l) out = ([], (zC inp out o).2) := fun l => by rw [runF, if_pos h]
   rw [List.cons_append, e1, e1, if_pos h]
theorem Vn {inp pre out : List (List UInt8)} {n : Int} {o : TOp} (h : okOp n out.length o = true) : zC inp (pre ++ out) (shO pre.length o) = zC inp out o := by
 unfold shO
 rcases qR h with ⟨g, _⟩ | ⟨g, _⟩ | ⟨g, g1, g2, g3, g4, _⟩
 ·rw [if_neg (by omega)]; unfold zC; rw [if_pos g, if_pos g]
 ·rw [if_neg (by omega)]; unfold zC; rw [if_neg (show ¬ o.kind = 1 by omega), if_pos g, if_neg (show ¬ o.kind = 1 by omega), if_pos g]
 ·rw [if_pos (by omega)]
  unfold zC
  simp only
  rw [if_neg (show ¬ o.kind = 1 by omega), if_neg (show ¬ o.kind = 2 by omega), if_neg (show ¬ o.kind = 1 by omega), if_neg (show ¬ o.kind = 2 by omega)]
  have e1 : (pre ++ out).getD (o.a + (pre.length : Int)).toNat [] = out.getD o.a.toNat [] := by
   have : (o.a + (pre.length : Int)).toNat = pre.length + o.a.toNat := by omega
   rw [this]; simp only [List.getD]; rw [List.getElem?_append_right (by omega)]; congr 2; omega
  have e2 : (pre ++ out).getD (o.b + (pre.length : Int)).toNat [] = out.getD o.b.toNat [] := by
   have : (o.b + (pre.length : Int)).toNat = pre.length + o.b.toNat := by omega
   rw [this]; simp only [List.getD]; rw [List.getElem?_append_right (by omega)]; congr 2; omega
  rw [e1, e2]
theorem Vz {inp pre : List (List UInt8)} {n : Int} : ∀ (l : List TOp) (out : List (List UInt8)), wC n out.length l → runF inp (l.map (shO pre.length)) (pre ++ out) = if (runF inp l out).2 ≠ 0 then ([], (runF inp l out).2) else (pre ++ (runF inp l out).1, 0)
 | [], out, _ => by simp [runF]
 | o :: l, out, h => by
  obtain ⟨h1, h2⟩ := h
  by_cases g : (zC inp out o).2 = 0
  ·have e1 : runF inp (o :: l) out = runF inp l (out ++ [(zC inp out o).1]) := by rw [runF, if_neg (fun q => q g)]
   have e2 : runF inp ((o :: l).map (shO pre.length)) (pre ++ out) = runF inp (l.map (shO pre.length)) (pre ++ out ++ [(zC inp out o).1]) := by rw [List.map_cons, runF, Vn h1, if_neg (fun q => q g)]
   rw [e1, e2, List.append_assoc, Vz l _ (by simpa using h2)]
  ·have e1 : runF inp (o :: l) out = ([], (zC inp out o).2) := by rw [runF, if_pos g]
   have e2 : runF inp ((o :: l).map (shO pre.length)) (pre ++ out) = ([], (zC inp out o).2) := by rw [List.map_cons, runF, Vn h1, if_pos g]
   rw [e1, e2, if_pos g]
theorem xa {n : Int} : ∀ (l1 l2 : List TOp) (k : Nat), wC n k l1 → wC n (k + l1.length) l2 → wC n k (l1 ++ l2)
 | [], l2, k, _, h => by simpa using h
 | o :: l1, l2, k, h1, h => by
  refine ⟨h1.1, xa l1 l2 (k + 1) h1.2 ?_⟩
  have : k + 1 + l1.length = k + (o :: l1).length := by simp; omega
  rw [this]; exact h
theorem YI {n : Int} {k m : Nat} {o : TOp} (h : okOp n k o = true) : okOp n (m + k) (shO m o) = true := by
 unfold shO
 rcases qR h with ⟨g, g1, g2, g3, g4⟩ | ⟨g, g1, g2, g3⟩ | ⟨g, g1, g2, g3, g4, g5⟩
 ·rw [if_neg (by omega)]; unfold okOp; rw [if_pos g]; simp [g1, g2, g3, g4]
 ·rw [if_neg (by omega)]; unfold okOp; rw [if_neg (show ¬ o.kind = 1 by omega), if_pos g]; simp [g1, g2, g3]
 ·rw [if_pos (by omega)]; unfold okOp; simp only; rw [if_neg (show ¬ o.kind = 1 by omega), if_neg (show ¬ o.kind = 2 by omega), if_pos (show 3 ≤ o.kind ∧ o.kind ≤ 6 by omega)]
  simp only [g5, Bool.and_eq_true, decide_eq_true_eq]
  exact ⟨⟨⟨by omega, by omega⟩, by omega, by omega⟩, trivial⟩
theorem ZQ {n : Int} {m : Nat} : ∀ (l : List TOp) (k : Nat), wC n k l → wC n (m + k) (l.map (shO m))
 | [], _, _ => trivial
 | o :: l, k, h => ⟨YI h.1, ZQ l (k + 1) h.2⟩
theorem Z6 {n : Int} : ∀ (l : List TOp) (k j : Nat), wC n k l → j < l.length → okOp n (k + j) (l.getD j TOp.nil) = true
 | [], _, _, _, h => by simp at h
 | o :: l, k, 0, h, _ => h.1
 | o :: l, k, j + 1, h, hj => by
  have := Z6 l (k + 1) j h.2 (by simpa using hj)
  rw [show k + 1 + j = k + (j + 1) by omega] at this
  exact this
theorem Yc {t : Tp} (h : wC t.n 0 t.ops) : wA t t.ops.length = true := by
 unfold wA
 rw [List.all_eq_true]
 intro j hj
 have := Z6 t.ops 0 j h (List.mem_range.1 hj)
 rw [Nat.zero_add] at this
 exact this
theorem JU {k : Int} {t u : Tp} (hk : k = 3 ∨ k = 4) (ht : zf t = 0) (hu : zf u = 0) (hn : t.n = u.n) (hl : t.ops.length + u.ops.length ≤ 400) : zf (zH k t u) = 0 := by
 obtain ⟨a1, a2, a3, a4, a5⟩ := zV.1 ht
 obtain ⟨b1, b2, b3, b4, b5⟩ := zV.1 hu
 refine zV.2 ⟨by simp [zH]; omega, a2, a3, by simp [zH]; omega, Yc ?_⟩
 have f1 := jg a5 t.ops 0 List.drop_zero
 have f2 := jg b5 u.ops 0 List.drop_zero
 rw [← hn] at f2
 refine xa _ _ 0 (xa _ _ 0 f1 ?_) ⟨?_, trivial⟩
 ·have := ZQ (m := t.ops.length) u.ops 0 f2
  rw [Nat.add_zero] at this
  rw [Nat.zero_add]
  exact this
 ·unfold okOp
  simp only [List.length_append, List.length_map, Nat.zero_add]
  rw [if_neg (show ¬ k = 1 by omega), if_neg (show ¬ k = 2 by omega), if_pos (show 3 ≤ k ∧ k ≤ 6 by omega)]
  simp only [Bool.and_eq_true, decide_eq_true_eq]
  exact ⟨⟨⟨by omega, by omega⟩, by omega, by omega⟩, trivial⟩
theorem Xa {r : List (List UInt8) × Int} (h : (qK r).2 = 0) : r.2 = 0 ∧ (qK r).1 = r.1.getD (r.1.length - 1) [] := by
 unfold qK at h ⊢
 by_cases g : r.2 = 0
 ·rw [if_neg (fun q => q g)]; exact ⟨g, rfl⟩
 ·rw [if_pos g] at h; exact absurd h g
theorem Zn {k : Int} {t u : Tp} {x : List (List UInt8)} (hk : k = 3 ∨ k = 4) (ht : zf t = 0) (hu : zf u = 0) (hn : t.n = u.n) (hx : allQ x) (hxl : (x.length : Int) = t.n) (h1 : (qK (runF x t.ops [])).2 = 0) (h2 : (qK (runF x u.ops [])).2 = 0) :
  qK (runF x (zH k t u).ops []) = arR k (qK (runF x t.ops [])).1 (qK (runF x u.ops [])).1 := by
 obtain ⟨a1, a2, a3, a4, a5⟩ := zV.1 ht
 obtain ⟨b1, b2, b3, b4, b5⟩ := zV.1 hu
 obtain ⟨q1, _⟩ := xn ht hxl hx h1
 obtain ⟨q2, _⟩ := xn hu (by rw [← hn]; exact hxl) hx h2
 obtain ⟨e1, l1⟩ := Xa h1
 obtain ⟨e2, l2⟩ := Xa h2
 have f1 := jg a5 t.ops 0 List.drop_zero
 have f2 := jg b5 u.ops 0 List.drop_zero
 obtain ⟨p1, _, n1⟩ := xR hx hxl t.ops [] _ (fun _ h => absurd h (by simp)) f1 (show runF x t.ops [] = ((runF x t.ops []).1, 0) by rw [← e1])
 obtain ⟨p2, _, n2⟩ := xR hx (by rw [← hn]; exact hxl) u.ops [] _ (fun _ h => absurd h (by simp)) f2 (show runF x u.ops [] = ((runF x u.ops []).1, 0) by rw [← e2])
 simp only [List.length_nil, Nat.zero_add] at n1 n2
 rw [l1] at q1 ⊢
 rw [l2] at q2 ⊢
 have f3 := Vz (inp := x) (pre := (runF x t.ops []).1) u.ops [] f2
 rw [if_neg (fun q => q e2), List.append_nil] at f3
 rw [n1] at f3
 have er : runF x (zH k t u).ops [] = runF x [⟨k, (t.ops.length : Int) - 1, (t.ops.length : Int) + u.ops.length - 1, []⟩] ((runF x t.ops []).1 ++ (runF x u.ops []).1) := by
  unfold zH
  simp only
  have g : runF x (t.ops ++ u.ops.map (shO t.ops.length)) [] = ((runF x t.ops []).1 ++ (runF x u.ops []).1, 0) := by
   rw [u3, if_neg (fun q => q e1), f3]
  rw [u3, g, if_neg (by simp)]
 rw [er]
 generalize hr : (runF x t.ops []).1 = r at *
 generalize hs : (runF x u.ops []).1 = s at *
 rw [runF]
 have es : zC x (r ++ s) ⟨k, (t.ops.length : Int) - 1, (t.ops.length : Int) + u.ops.length - 1, []⟩ = arR k (r.getD (r.length - 1) []) (s.getD (s.length - 1) []) := by
  unfold zC
  simp only
  rw [if_neg (show ¬ k = 1 by omega), if_neg (show ¬ k = 2 by omega)]
  have c1 : ((t.ops.length : Int) - 1).toNat = r.length - 1 := by omega
  have c2 : ((t.ops.length : Int) + u.ops.length - 1).toNat = r.length + (s.length - 1) := by omega
  rw [c1, c2]
  congr 1
  ·simp only [List.getD]; rw [List.getElem?_append_left (by omega)]
  ·simp only [List.getD]; rw [List.getElem?_append_right (by omega)]; congr 2; omega
 rw [es]
 by_cases g : (arR k (r.getD (r.length - 1) []) (s.getD (s.length - 1) [])).2 = 0
 ·rw [if_neg (fun q => q g), runF]
  unfold qK
  simp only
  rw [if_neg (by simp)]
  have : (r ++ s ++ [(arR k (r.getD (r.length - 1) []) (s.getD (s.length - 1) [])).1]).getD ((r ++ s ++ [(arR k (r.getD (r.length - 1) []) (s.getD (s.length - 1) [])).1]).length - 1) [] = (arR k (r.getD (r.length - 1) []) (s.getD (s.length - 1) [])).1 := by
   simp [List.getD]
  rw [this, ← g]
 ·rw [if_pos g]
  unfold qK
  simp only
  rw [if_pos g]
  exact Prod.ext (VU q1 q2 g).symm rfl
theorem JK {k : Int} {a b : List UInt8} (hk : k = 3 ∨ k = 4) (ha : errR a = 0) (hb : errR b = 0) : (arR k a b).2 = 14 ∨ (arR k a b).2 = 0 := by
 unfold arR
 rcases hk with g | g
 ·rw [if_pos g]; rcases QD ha hb with h | ⟨h, _⟩ <;> rw [h] <;> simp
 ·rw [if_neg (show ¬ k = 3 by omega), if_pos g]; rcases Qs ha hb with h | ⟨h, _⟩ <;> rw [h] <;> simp
theorem Q7 {k : Int} {t u : Tp} {inp : List (List UInt8)} {i : Int} {h : List UInt8} (hk : k = 3 ∨ k = 4) (hn : t.n = u.n) (hl : t.ops.length + u.ops.length ≤ 400) (h1 : (z3 t inp i h).2 = 0) (h2 : (z3 u inp i h).2 = 0)
  (h3 : (arR k (z3 t inp i h).1 (z3 u inp i h).1).2 = 0) : (z3 (zH k t u) inp i h).2 = 14 ∨ (z3 (zH k t u) inp i h).2 = 0 ∧ (z3 (zH k t u) inp i h).1 = (arR k (z3 t inp i h).1 (z3 u inp i h).1).1 := by
 obtain ⟨D, r1, r2⟩ := vS h1
 obtain ⟨E, s1, s2⟩ := vS h2
 have hc := JU hk D.c E.c hn hl
 have beg : ∀ {v : Tp}, (z3 v inp i h).2 = 0 → begT v inp [i] h = 0 ∧ (atT v inp h [i]).2 = 0 := by
  intro v hv
  have hb : begT v inp [i] h = 0 := by
   refine Decidable.byContradiction fun g => ?_
   unfold z3 at hv
   rw [if_pos g] at hv
   exact g hv
  refine ⟨hb, ?_⟩
  unfold z3 at hv
  rw [if_neg (fun q => q hb)] at hv
  have := (V2 (U7 hv).1).1
  unfold xF at this
  exact (V2 this).1
 obtain ⟨g1, g2⟩ := beg h1
 obtain ⟨g3, g4⟩ := beg h2
 obtain ⟨_, v1, v2⟩ := ZS g1
 obtain ⟨_, w1, w2⟩ := ZS g3
 have v0 := (Y2 g1).1
 have w0 := (Y2 g3).1
 have DJ : Dok (zH k t u) inp [i] h := ⟨hc, D.n, D.q, D.l, D.h0, D.hq⟩
 have ev : zw (zH k t u) inp = arR k (zw t inp).1 (zw u inp).1 := by
  have x1 := ZW D.c D.n D.q
  have x2 := ZW E.c E.n E.q
  rw [ZW hc DJ.n DJ.q, x1, x2]
  exact Zn hk D.c E.c hn D.q D.n (by rw [← x1]; exact v0) (by rw [← x2]; exact w0)
 by_cases hv : (zw (zH k t u) inp).2 = 0
 ·have il := D.l i (by simp)
  have hil : i.toNat < inp.length := by have := D.n; omega
  have f0 : (addR (inp.getD i.toNat []) h).2 = 0 := by
   rcases QD (qM D.q hil) D.h0 with g | ⟨g, _⟩
   ·rw [zab (by rw [g])] at g2; cases g2
   ·rw [g]
  obtain ⟨x1, x2⟩ := xr (qM D.q hil) D.h0 f0
  have ea : atT (zH k t u) inp h [i] = arR k (atT t inp h [i]).1 (atT u inp h [i]).1 := by
   have y1 : atT t inp h [i] = _ := at_one f0
   have y2 : atT u inp h [i] = _ := at_one f0
   rw [at_one f0, y1, y2]
   exact Zn hk D.c E.c hn (yP D.q x1 _) (by simpa using D.n) (by rw [← y1]; exact g2) (by rw [← y2]; exact g4)
  obtain ⟨a1, a2⟩ := yi D.h0 D.c D.n D.q D.l g2
  obtain ⟨b1, b2⟩ := yi D.h0 E.c E.n E.q E.l g4
  rcases Xp DJ hv (by rw [ea]; exact JK hk a1 b1) with g | g
  ·exact .inl g
  ·right
   obtain ⟨_, z1, z2⟩ := vS g
   obtain ⟨g5, g6⟩ := beg g
   obtain ⟨m1, m2⟩ := yi D.h0 hc DJ.n DJ.q DJ.l g6
   obtain ⟨_, n1, n2⟩ := ZS g5
   have c1 := VA a1 b1 (k := k) (by rw [← ea]; exact g6)
   have c2 := VA v1 w1 (k := k) (by rw [← ev]; exact hv)
   have c3 := VA r1 s1 h3
   rw [← ea, m2, a2, b2] at c1
   rw [← ev, n2, v2, w2] at c2
   refine ⟨g, Yu z1 (WJ r1 s1 h3) ?_⟩
   rw [z2, c1, c2, c3, r2, s2]
   have := D.hq
   unfold arQ
   rcases hk with q | q
   ·simp only [q, if_true]; grind
   ·simp only [q]; simp only [show ¬ ((4 : Int) = 3) by decide, if_false, if_true]; grind
 ·left
  have hb : begT (zH k t u) inp [i] h = 14 := by
   unfold begT
   rw [if_pos hv]
   rcases JK hk v1 w1 with g | g
   ·rw [ev]; exact g
   ·rw [ev] at hv; exact absurd g hv
  unfold z3
  rw [if_pos (by rw [hb]; decide), hb]
end Go.Nov
end

/- Tapes: checks. -/
section
set_option maxRecDepth 100000
open Go Go.Sx Go.Proofs Go.Nov
namespace Go.Proofs.Try
attribute [local simp] eqKV eqA eqA0 eqH eqB eqL eqL0
noncomputable def K17 : List Go.Sx.Item := [.code (Try.f17.body.getD .skip)]
noncomputable def bwI : Ctr := inlC Try.prog noG 100 Try.f35
theorem VG : ze Try.prog 35 bwI := vI hmix zG rfl rfl
def Qn (o : TOp) : Prop := o.rat.length < 2 ^ 60
def zy (t : Tp) : Prop := t.ops.length < 2 ^ 60 ∧ ∀ j, j < t.ops.length → Qn (t.ops.getD j TOp.nil)
def yA : Ctr := ctrP true (fun t : Tp => [t.av]) zy (fun t r => r = zf t) (fun _ (r : Int) => (.int .i64 r, []))
def SBc (ops : List TOp) (ok : Bool) (i : Nat) : KV := [(1, .ptr 0 0), (3, .bool ok), (25, opS ops), (26, .int .i64 (ops.length : Int)), (27, .int .i64 (i : Int)), (38, .undef), (39, .undef), (40, .undef), (41, .undef), (42, .undef), (45, .undef), (46, .undef), (47, .undef), (48, .undef), (49, .undef), (50, .undef), (51, .undef), (57, .undef), (58, .undef), (59, .undef), (60, .undef), (63, .undef), (64, .undef), (65, .undef), (68, .undef), (69, .undef), (70, .undef), (79, .undef), (80, .undef), (81, .undef), (82, .undef), (85, .undef), (86, .undef), (87, .undef), (88, .undef), (91, .undef), (92, .undef), (93, .undef)]
def HBc (n : Int) (ops : List TOp) : Heap := [.box [.int .i64 n, opS ops]]
noncomputable def GT1 : Nat → Option Ctr := fun f => if f = 35 then some (bwI) else if f = 30 then some (ky) else none
theorem Yd : ∀ g c, GT1 g = some c → ze Try.prog g c := okIf VG (okIf wW (zz))
theorem xU : ze Try.prog 17 yA := by
 refine zr (fn := Try.f17) (c := Try.f17.body.getD .skip) rfl rfl rfl fun p hp O w0 Q hq => ?_
 obtain ⟨n, ops⟩ := p
 obtain ⟨h1, h2⟩ := hp
 replace hq := hq _ rfl
 simp only at h1 h2 hq
 refine zb.run hmix Yd [1, 3, 25, 26, 27, 38, 39, 40, 41, 42, 45, 46, 47, 48, 49, 50, 51, 57, 58, 59, 60, 63, 64, 65, 68, 69, 70, 79, 80, 81, 82, 85, 86, 87, 88, 91, 92, 93] 400 (T := .ite (decide ((500 : Int) < ops.length)) (.leaf (.ret [.int .i64 4] [.box [.int .i64 n, .sl ops.length 4 (opG ops)]])) (.leaf (.loop (Prod.fst (lps K17 0)) (Prod.snd (lps K17 0)) [(1, .ptr 0 0), (3, .bool (bif bif decide ((0 : Int) ≤ n) then decide (n ≤ 500) else false then decide ((0 : Int) < ops.length) else false)), (25, .sl ops.length 4 (opG ops)), (26, .int .i64 ops.length), (27, .int .i64 0), (38, .undef), (39, .undef), (40, .undef), (41, .undef), (42, .undef), (45, .undef), (46, .undef), (47, .undef), (48, .undef), (49, .undef), (50, .undef), (51, .undef), (57, .undef), (58, .undef), (59, .undef), (60, .undef), (63, .undef), (64, .undef), (65, .undef), (68, .undef), (69, .undef), (70, .undef), (79, .undef), (80, .undef), (81, .undef), (82, .undef), (85, .undef), (86, .undef), (87, .undef), (88, .undef), (91, .undef), (92, .undef), (93, .undef)] [.box [.int .i64 n, .sl ops.length 4 (opG ops)]]))) (by kernel_rfl) ?_
 simp only [Tree.holds, zd]
 refine ⟨fun h => ?_, fun h => ?_⟩
 ·have h : 500 < ops.length := by have := of_decide_eq_true h; omega
  have e : zf ⟨n, ops⟩ = 4 := by unfold zf; rw [if_pos h]
  rw [e] at hq
  exact RetR.scal hq rfl (by simp [resV])
 have hl : ¬ 500 < ops.length := by have := of_decide_eq_false h; omega
 refine zb.loop (ι := {i : Nat // i ≤ ops.length}) (fun i => SBc ops (y4 ⟨n, ops⟩ && wA ⟨n, ops⟩ i.1) i.1) (fun _ => HBc n ops) (fun i => ops.length - i.1) ⟨0, Nat.zero_le _⟩ 0 ?_ ?_ (by kernel_rfl)
 ·refine ⟨?_, by simp [HBc, opS, za], by kernel_rfl, Nat.zero_le _⟩
  simp [SBc, opS, za, y4, wA]
 ·rintro ⟨i, hil⟩
  obtain ⟨ok, hok⟩ : ∃ ok, (y4 ⟨n, ops⟩ && wA ⟨n, ops⟩ i) = ok := ⟨_, rfl⟩
  simp only [hok]
  refine zb.run hmix Yd [1, 3, 25, 26, 27, 38, 39, 40, 41, 42, 45, 46, 47, 48, 49, 50, 51, 57, 58, 59, 60, 63, 64, 65, 68, 69, 70, 79, 80, 81, 82, 85, 86, 87, 88, 91, 92, 93] 400 (T := .ite (decide ((↑i : Int) < ops.length)) (.side ((0 : Int) ≤ i ∧ (↑i : Int) < ops.length) (.ite (decide (TOp.kind (List.getD ops (Int.toNat (↑i : Int)) TOp.nil) = (1 : Int))) (.side (inR .i64 ((↑i : Int) + (1 : Int))) (.leaf (.back 0 [(1, .ptr 0 0), (3, .bool (bif bif ok then bif decide ((0 : Int) ≤ TOp.a (List.getD ops (Int.toNat (↑i : Int)) TOp.nil)) then decide (TOp.a (List.getD ops (Int.toNat (↑i : Int)) TOp.nil) < n) else false else false then decide (TOp.kind (List.getD ops (Int.toNat (↑i : Int)) TOp.nil) = TOp.kind (List.getD ops (Int.toNat (↑i : Int)) TOp.nil)) && (decide (TOp.a (List.getD ops (Int.toNat (↑i : Int)) TOp.nil) = TOp.a (List.getD ops (Int.toNat (↑i : Int)) TOp.nil)) && (decide (TOp.b (List.getD ops (Int.toNat (↑i : Int)) TOp.nil) = (0 : Int)) && (decide (TOp.rat (List.getD ops (Int.toNat (↑i : Int)) TOp.nil) = Array.toList #[]) && true))) else false)), (25, .sl ops.length 4 (opG ops)), (26, .int .i64 ops.length), (27, .int .i64 ((↑i : Int) + (1 : Int))), (38, .undef), (39, .undef), (40, .undef), (41, .undef), (42, .undef), (45, .undef), (46, .undef), (47, .undef), (48, .undef), (49, .undef), (50, .undef), (51, .undef), (57, .undef), (58, .undef), (59, .undef), (60, .undef), (63, .undef), (64, .undef), (65, .undef), (68, .undef), (69, .undef), (70, .undef), (79, .undef), (80, .undef), (81, .undef), (82, .undef), (85, .undef), (86, .undef), (87, .undef), (88, .undef), (91, .undef), (92, .undef), (93, .undef)] [.box [.int .i64 n, .sl ops.length 4 (opG ops)], .box [.int .u8 (TOp.kind (List.getD ops (Int.toNat (↑i : Int)) TOp.nil)), .int .i64 (TOp.a (List.getD ops (Int.toNat (↑i : Int)) TOp.nil)), .int .i64 (TOp.b (List.getD ops (Int.toNat (↑i : Int)) TOp.nil)), .str (TOp.rat (List.getD ops (Int.toNat (↑i : Int)) TOp.nil))]]))) (.ite (decide (TOp.kind (List.getD ops (Int.toNat (↑i : Int)) TOp.nil) = (2 : Int))) (.ex (fun (x : List UInt8) => ok = true → eqL [AV.str (TOp.rat (List.getD ops (Int.toNat (↑i : Int)) TOp.nil))] [AV.str x] ∧ x.length < 4611686018427387904) fun n_1 => .all (fun (x : Int) => ok = true → x = errR n_1) fun n_2 => .side (inR .i64 ((↑i : Int) + (1 : Int))) (.leaf (.back 0 [(1, .ptr 0 0), (3, .bool (bif bif bif ok then decide (n_2 = 0) else false then decide (TOp.a (List.getD ops (Int.toNat (↑i : Int)) TOp.nil) = (0 : Int)) else false then decide (TOp.b (List.getD ops (Int.toNat (↑i : Int)) TOp.nil) = (0 : Int)) else false)), (25, .sl ops.length 4 (opG ops)), (26, .int .i64 ops.length), (27, .int .i64 ((↑i : Int) + (1 : Int))), (38, .undef), (39, .undef), (40, .undef), (41, .undef), (42, .undef), (45, .undef), (46, .undef), (47, .undef), (48, .undef), (49, .undef), (50, .undef), (51, .undef), (57, .undef), (58, .undef), (59, .undef), (60, .undef), (63, .undef), (64, .undef), (65, .undef), (68, .undef), (69, .undef), (70, .undef), (79, .undef), (80, .undef), (81, .undef), (82, .undef), (85, .undef), (86, .undef), (87, .undef), (88, .undef), (91, .undef), (92, .undef), (93, .undef)] [.box [.int .i64 n, .sl ops.length 4 (opG ops)], .box [.int .u8 (TOp.kind (List.getD ops (Int.toNat (↑i : Int)) TOp.nil)), .int .i64 (TOp.a (List.getD ops (Int.toNat (↑i : Int)) TOp.nil)), .int .i64 (TOp.b (List.getD ops (Int.toNat (↑i : Int)) TOp.nil)), .str (TOp.rat (List.getD ops (Int.toNat (↑i : Int)) TOp.nil))]]))) (.ite (decide (TOp.kind (List.getD ops (Int.toNat (↑i : Int)) TOp.nil) = (3 : Int))) (.ite (decide (TOp.kind (List.getD ops (Int.toNat (↑i : Int)) TOp.nil) = (3 : Int))) (.side (inR .i64 ((↑i : Int) + (1 : Int))) (.leaf (.back 0 [(1, .ptr 0 0), (3, .bool (bif bif bif ok then bif decide ((0 : Int) ≤ TOp.a (List.getD ops (Int.toNat (↑i : Int)) TOp.nil)) then decide (TOp.a (List.getD ops (Int.toNat (↑i : Int)) TOp.nil) < (↑i : Int)) else false else false then bif decide ((0 : Int) ≤ TOp.b (List.getD ops (Int.toNat (↑i : Int)) TOp.nil)) then decide (TOp.b (List.getD ops (Int.toNat (↑i : Int)) TOp.nil) < (↑i : Int)) else false else false then decide (TOp.rat (List.getD ops (Int.toNat (↑i : Int)) TOp.nil) = Array.toList #[]) else false)), (25, .sl ops.length 4 (opG ops)), (26, .int .i64 ops.length), (27, .int .i64 ((↑i : Int) + (1 : Int))), (38, .undef), (39, .undef), (40, .undef), (41, .undef), (42, .undef), (45, .undef), (46, .undef), (47, .undef), (48, .undef), (49, .undef), (50, .undef), (51, .undef), (57, .undef), (58, .undef), (59, .undef), (60, .undef), (63, .undef), (64, .undef), (65, .undef), (68, .undef), (69, .undef), (70, .undef), (79, .undef), (80, .undef), (81, .undef), (82, .undef), (85, .undef), (86, .undef), (87, .undef), (88, .undef), (91, .undef), (92, .undef), (93, .undef)] [.box [.int .i64 n, .sl ops.length 4 (opG ops)], .box [.int .u8 (TOp.kind (List.getD ops (Int.toNat (↑i : Int)) TOp.nil)), .int .i64 (TOp.a (List.getD ops (Int.toNat (↑i : Int)) TOp.nil)), .int .i64 (TOp.b (List.getD ops (Int.toNat (↑i : Int)) TOp.nil)), .str (TOp.rat (List.getD ops (Int.toNat (↑i : Int)) TOp.nil))]]))) (.side (inR .i64 ((↑i : Int) + (1 : Int))) (.leaf (.back 0 [(1, .ptr 0 0), (3, .bool false), (25, .sl ops.length 4 (opG ops)), (26, .int .i64 ops.length), (27, .int .i64 ((↑i : Int) + (1 : Int))), (38, .undef), (39, .undef), (40, .undef), (41, .undef), (42, .undef), (45, .undef), (46, .undef), (47, .undef), (48, .undef), (49, .undef), (50, .undef), (51, .undef), (57, .undef), (58, .undef), (59, .undef), (60, .undef), (63, .undef), (64, .undef), (65, .undef), (68, .undef), (69, .undef), (70, .undef), (79, .undef), (80, .undef), (81, .undef), (82, .undef), (85, .undef), (86, .undef), (87, .undef), (88, .undef), (91, .undef), (92, .undef), (93, .undef)] [.box [.int .i64 n, .sl ops.length 4 (opG ops)], .box [.int .u8 (TOp.kind (List.getD ops (Int.toNat (↑i : Int)) TOp.nil)), .int .i64 (TOp.a (List.getD ops (Int.toNat (↑i : Int)) TOp.nil)), .int .i64 (TOp.b (List.getD ops (Int.toNat (↑i : Int)) TOp.nil)), .str (TOp.rat (List.getD ops (Int.toNat (↑i : Int)) TOp.nil))]])))) (.ite (decide (TOp.kind (List.getD ops (Int.toNat (↑i : Int)) TOp.nil) = (4 : Int))) (.ite (decide (TOp.kind (List.getD ops (Int.toNat (↑i : Int)) TOp.nil) = (4 : Int))) (.side (inR .i64 ((↑i : Int) + (1 : Int))) (.leaf (.back 0 [(1, .ptr 0 0), (3, .bool (bif bif bif ok then bif decide ((0 : Int) ≤ TOp.a (List.getD ops (Int.toNat (↑i : Int)) TOp.nil)) then decide (TOp.a (List.getD ops (Int.toNat (↑i : Int)) TOp.nil) < (↑i : Int)) else false else false then bif decide ((0 : Int) ≤ TOp.b (List.getD ops (Int.toNat (↑i : Int)) TOp.nil)) then decide (TOp.b (List.getD ops (Int.toNat (↑i : Int)) TOp.nil) < (↑i : Int)) else false else false then decide (TOp.rat (List.getD ops (Int.toNat (↑i : Int)) TOp.nil) = Array.toList #[]) else false)), (25, .sl ops.length 4 (opG ops)), (26, .int .i64 ops.length), (27, .int .i64 ((↑i : Int) + (1 : Int))), (38, .undef), (39, .undef), (40, .undef), (41, .undef), (42, .undef), (45, .undef), (46, .undef), (47, .undef), (48, .undef), (49, .undef), (50, .undef), (51, .undef), (57, .undef), (58, .undef), (59, .undef), (60, .undef), (63, .undef), (64, .undef), (65, .undef), (68, .undef), (69, .undef), (70, .undef), (79, .undef), (80, .undef), (81, .undef), (82, .undef), (85, .undef), (86, .undef), (87, .undef), (88, .undef), (91, .undef), (92, .undef), (93, .undef)] [.box [.int .i64 n, .sl ops.length 4 (opG ops)], .box [.int .u8 (TOp.kind (List.getD ops (Int.toNat (↑i : Int)) TOp.nil)), .int .i64 (TOp.a (List.getD ops (Int.toNat (↑i : Int)) TOp.nil)), .int .i64 (TOp.b (List.getD ops (Int.toNat (↑i : Int)) TOp.nil)), .str (TOp.rat (List.getD ops (Int.toNat (↑i : Int)) TOp.nil))]]))) (.side (inR .i64 ((↑i : Int) + (1 : Int))) (.leaf (.back 0 [(1, .ptr 0 0), (3, .bool false), (25, .sl ops.length 4 (opG ops)), (26, .int .i64 ops.length), (27, .int .i64 ((↑i : Int) + (1 : Int))), (38, .undef), (39, .undef), (40, .undef), (41, .undef), (42, .undef), (45, .undef), (46, .undef), (47, .undef), (48, .undef), (49, .undef), (50, .undef), (51, .undef), (57, .undef), (58, .undef), (59, .undef), (60, .undef), (63, .undef), (64, .undef), (65, .undef), (68, .undef), (69, .undef), (70, .undef), (79, .undef), (80, .undef), (81, .undef), (82, .undef), (85, .undef), (86, .undef), (87, .undef), (88, .undef), (91, .undef), (92, .undef), (93, .undef)] [.box [.int .i64 n, .sl ops.length 4 (opG ops)], .box [.int .u8 (TOp.kind (List.getD ops (Int.toNat (↑i : Int)) TOp.nil)), .int .i64 (TOp.a (List.getD ops (Int.toNat (↑i : Int)) TOp.nil)), .int .i64 (TOp.b (List.getD ops (Int.toNat (↑i : Int)) TOp.nil)), .str (TOp.rat (List.getD ops (Int.toNat (↑i : Int)) TOp.nil))]])))) (.ite (decide (TOp.kind (List.getD ops (Int.toNat (↑i : Int)) TOp.nil) = (5 : Int))) (.ite (decide (TOp.kind (List.getD ops (Int.toNat (↑i : Int)) TOp.nil) = (5 : Int))) (.side (inR .i64 ((↑i : Int) + (1 : Int))) (.leaf (.back 0 [(1, .ptr 0 0), (3, .bool (bif bif bif ok then bif decide ((0 : Int) ≤ TOp.a (List.getD ops (Int.toNat (↑i : Int)) TOp.nil)) then decide (TOp.a (List.getD ops (Int.toNat (↑i : Int)) TOp.nil) < (↑i : Int)) else false else false then bif decide ((0 : Int) ≤ TOp.b (List.getD ops (Int.toNat (↑i : Int)) TOp.nil)) then decide (TOp.b (List.getD ops (Int.toNat (↑i : Int)) TOp.nil) < (↑i : Int)) else false else false then decide (TOp.rat (List.getD ops (Int.toNat (↑i : Int)) TOp.nil) = Array.toList #[]) else false)), (25, .sl ops.length 4 (opG ops)), (26, .int .i64 ops.length), (27, .int .i64 ((↑i : Int) + (1 : Int))), (38, .undef), (39, .undef), (40, .undef), (41, .undef), (42, .undef), (45, .undef), (46, .undef), (47, .undef), (48, .undef), (49, .undef), (50, .undef), (51, .undef), (57, .undef), (58, .undef), (59, .undef), (60, .undef), (63, .undef), (64, .undef), (65, .undef), (68, .undef), (69, .undef), (70, .undef), (79, .undef), (80, .undef), (81, .undef), (82, .undef), (85, .undef), (86, .undef), (87, .undef), (88, .undef), (91, .undef), (92, .undef), (93, .undef)] [.box [.int .i64 n, .sl ops.length 4 (opG ops)], .box [.int .u8 (TOp.kind (List.getD ops (Int.toNat (↑i : Int)) TOp.nil)), .int .i64 (TOp.a (List.getD ops (Int.toNat (↑i : Int)) TOp.nil)), .int .i64 (TOp.b (List.getD ops (Int.toNat (↑i : Int)) TOp.nil)), .str (TOp.rat (List.getD ops (Int.toNat (↑i : Int)) TOp.nil))]]))) (.side (inR .i64 ((↑i : Int) + (1 : Int))) (.leaf (.back 0 [(1, .ptr 0 0), (3, .bool false), (25, .sl ops.length 4 (opG ops)), (26, .int .i64 ops.length), (27, .int .i64 ((↑i : Int) + (1 : Int))), (38, .undef), (39, .undef), (40, .undef), (41, .undef), (42, .undef), (45, .undef), (46, .undef), (47, .undef), (48, .undef), (49, .undef), (50, .undef), (51, .undef), (57, .undef), (58, .undef), (59, .undef), (60, .undef), (63, .undef), (64, .undef), (65, .undef), (68, .undef), (69, .undef), (70, .undef), (79, .undef), (80, .undef), (81, .undef), (82, .undef), (85, .undef), (86, .undef), (87, .undef), (88, .undef), (91, .undef), (92, .undef), (93, .undef)] [.box [.int .i64 n, .sl ops.length 4 (opG ops)], .box [.int .u8 (TOp.kind (List.getD ops (Int.toNat (↑i : Int)) TOp.nil)), .int .i64 (TOp.a (List.getD ops (Int.toNat (↑i : Int)) TOp.nil)), .int .i64 (TOp.b (List.getD ops (Int.toNat (↑i : Int)) TOp.nil)), .str (TOp.rat (List.getD ops (Int.toNat (↑i : Int)) TOp.nil))]])))) (.ite (decide (TOp.kind (List.getD ops (Int.toNat (↑i : Int)) TOp.nil) = (6 : Int))) (.side (inR .i64 ((↑i : Int) + (1 : Int))) (.leaf (.back 0 [(1, .ptr 0 0), (3, .bool (bif bif bif ok then bif decide ((0 : Int) ≤ TOp.a (List.getD ops (Int.toNat (↑i : Int)) TOp.nil)) then decide (TOp.a (List.getD ops (Int.toNat (↑i : Int)) TOp.nil) < (↑i : Int)) else false else false then bif decide ((0 : Int) ≤ TOp.b (List.getD ops (Int.toNat (↑i : Int)) TOp.nil)) then decide (TOp.b (List.getD ops (Int.toNat (↑i : Int)) TOp.nil) < (↑i : Int)) else false else false then decide (TOp.rat (List.getD ops (Int.toNat (↑i : Int)) TOp.nil) = Array.toList #[]) else false)), (25, .sl ops.length 4 (opG ops)), (26, .int .i64 ops.length), (27, .int .i64 ((↑i : Int) + (1 : Int))), (38, .undef), (39, .undef), (40, .undef), (41, .undef), (42, .undef), (45, .undef), (46, .undef), (47, .undef), (48, .undef), (49, .undef), (50, .undef), (51, .undef), (57, .undef), (58, .undef), (59, .undef), (60, .undef), (63, .undef), (64, .undef), (65, .undef), (68, .undef), (69, .undef), (70, .undef), (79, .undef), (80, .undef), (81, .undef), (82, .undef), (85, .undef), (86, .undef), (87, .undef), (88, .undef), (91, .undef), (92, .undef), (93, .undef)] [.box [.int .i64 n, .sl ops.length 4 (opG ops)], .box [.int .u8 (TOp.kind (List.getD ops (Int.toNat (↑i : Int)) TOp.nil)), .int .i64 (TOp.a (List.getD ops (Int.toNat (↑i : Int)) TOp.nil)), .int .i64 (TOp.b (List.getD ops (Int.toNat (↑i : Int)) TOp.nil)), .str (TOp.rat (List.getD ops (Int.toNat (↑i : Int)) TOp.nil))]]))) (.side (inR .i64 ((↑i : Int) + (1 : Int))) (.leaf (.back 0 [(1, .ptr 0 0), (3, .bool false), (25, .sl ops.length 4 (opG ops)), (26, .int .i64 ops.length), (27, .int .i64 ((↑i : Int) + (1 : Int))), (38, .undef), (39, .undef), (40, .undef), (41, .undef), (42, .undef), (45, .undef), (46, .undef), (47, .undef), (48, .undef), (49, .undef), (50, .undef), (51, .undef), (57, .undef), (58, .undef), (59, .undef), (60, .undef), (63, .undef), (64, .undef), (65, .undef), (68, .undef), (69, .undef), (70, .undef), (79, .undef), (80, .undef), (81, .undef), (82, .undef), (85, .undef), (86, .undef), (87, .undef), (88, .undef), (91, .undef), (92, .undef), (93, .undef)] [.box [.int .i64 n, .sl ops.length 4 (opG ops)], .box [.int .u8 (TOp.kind (List.getD ops (Int.toNat (↑i : Int)) TOp.nil)), .int .i64 (TOp.a (List.getD ops (Int.toNat (↑i : Int)) TOp.nil)), .int .i64 (TOp.b (List.getD ops (Int.toNat (↑i : Int)) TOp.nil)), .str (TOp.rat (List.getD ops (Int.toNat (↑i : Int)) TOp.nil))]])))))))))) (.ite (!ok) (.leaf (.ret [.int .i64 8] [.box [.int .i64 n, .sl ops.length 4 (opG ops)]])) (.leaf (.ret [.int .i64 0] [.box [.int .i64 n, .sl ops.length 4 (opG ops)]])))) (by kernel_rfl) ?_
  simp only [Tree.holds, zd, inR, lo, hi, Int.toNat_natCast]
  refine ⟨fun hlt => ?_, fun hge => ?_⟩
  ·have hlt : i < ops.length := by have := of_decide_eq_true hlt; omega
   have hsm := h2 i hlt
   have hs : (y4 ⟨n, ops⟩ && wA ⟨n, ops⟩ (i + 1)) = (ok && okOp n i (ops.getD i TOp.nil)) := by rw [W6, ← Bool.and_assoc, hok]
   obtain ⟨o, ho⟩ : ∃ o, ops.getD i TOp.nil = o := ⟨_, rfl⟩
   rw [ho] at hs hsm
   simp only [ho]
   refine ⟨by omega, fun _ => ?_⟩
   have hk : (∃ x' : {i : Nat // i ≤ ops.length}, x' = ⟨i + 1, hlt⟩) := ⟨_, rfl⟩
   refine ⟨fun k1 => ?_, fun k1 => ⟨fun k2 => ⟨o.rat, fun _ => ⟨⟨rfl, trivial⟩, by unfold Qn at hsm; omega⟩, ⟨_, fun _ => rfl⟩, fun e he => ?_⟩, fun k2 => ⟨fun k3 => ⟨fun k3' => ?_, fun k3' => ?_⟩, fun k3 => ⟨fun k4 => ⟨fun k4' => ?_, fun k4' => ?_⟩, fun k4 => ⟨fun k5 => ⟨fun k5' => ?_, fun k5' => ?_⟩, fun k5 => ⟨fun k6 => ?_, fun k6 => ?_⟩⟩⟩⟩⟩⟩
   all_goals
    refine ⟨by omega, fun _ => ?_⟩
    rw [if_pos trivial]
    refine ⟨⟨i + 1, hlt⟩, by show ops.length - (i + 1) < ops.length - i; omega, ?_, by simp [HBc, opS, za], by kernel_rfl, Nat.zero_le _⟩
    simp only [hs]
    clear hs hok hq h2 h1
    cases ok <;> simp_all [SBc, opS, za, okOp, Bool.and_assoc] <;> (intros; omega)
  ·have hge : i = ops.length := by have := of_decide_eq_false hge; omega
   subst hge
   have e : zf ⟨n, ops⟩ = if ok = true then 0 else 8 := by unfold zf; rw [if_neg hl, ← hok]
   refine ⟨fun h => ?_, fun h => ?_⟩
   ·have h : ok = false := by simpa using h
    rw [e, h, if_neg (by decide)] at hq
    exact RetR.scal hq rfl (by simp [resV])
   ·have h : ok = true := by simpa using h
    rw [e, h, if_pos rfl] at hq
    exact RetR.scal hq rfl (by simp [resV])
end Go.Proofs.Try
end

/- Tapes: runs, values. -/
section
set_option maxRecDepth 100000
open Go Go.Sx Go.Proofs Go.Nov
namespace Go.Proofs.Try
attribute [local simp] eqKV eqA eqA0 eqH eqB eqL eqL0
noncomputable def K31 : List Go.Sx.Item := [.code (Try.f31.body.getD .skip)]
noncomputable def bexI : Ctr := inlC Try.prog noG 100 Try.f55
theorem UY : ze Try.prog 55 bexI := vI hmix zG rfl rfl
noncomputable def bofI : Ctr := inlC Try.prog noG 100 Try.f56
theorem za7 : ze Try.prog 56 bofI := vI hmix zG rfl rfl
def zN (l : List (List UInt8)) : Prop := l.length < 2 ^ 60 ∧ ∀ j, j < l.length → (l.getD j []).length < 2 ^ 60
def J3 : Ctr := ctrP true (fun p : Tp × List (List UInt8) => [p.1.av, ratS p.2]) (fun p => zf p.1 = 0 ∧ (p.2.length : Int) = p.1.n ∧ allQ p.2) (fun p r => r = runF p.2 p.1.ops []) (fun _ (r : List (List UInt8) × Int) => (.tup [.osl 0 1 0 r.1.length, .int .i64 r.2], [.arr r.1.length 1 (ratG r.1)]))
theorem YU {l : List (List UInt8)} {v : List UInt8} {n i : Nat} (h : l.length = i) : eqG n 1 (updG (ratG l) i 0 [.str v]) (ratG (l ++ [v])) := by
 intro j o hj ho
 have ho : o = 0 := by omega
 subst ho
 simp only [updG, ratG]
 by_cases hji : j = i
 ·subst hji; subst h
  simp [List.getD]
 ·rw [if_neg (by simp [hji])]
  congr 1
  simp only [List.getD, List.getElem?_append]
  split
  ·rfl
  ·rename_i g
   rw [List.getElem?_eq_none (by omega), List.getElem?_eq_none (by simp; omega)]
theorem XM (n : Nat) : eqG n 1 (jS [.str []]) (ratG []) := by
 intro j o hj ho
 have ho : o = 0 := by omega
 subst ho
 simp [jS, ratG]
def SBr (inp : List (List UInt8)) (ops : List TOp) (i : Nat) : KV := [(1, ratS inp), (6, .ptr 2 0), (7, .osl 3 1 0 ops.length), (18, opS ops), (19, .int .i64 (ops.length : Int)), (20, .int .i64 (i : Int))]
def HBr (n : Int) (ops : List TOp) (l : List (List UInt8)) : Heap := [.box [.int .i64 n, opS ops], .dead, .box [.fn 23 [] [], .fn 24 [] [], .fn 27 [] [], .fn 62 [] []], .arr ops.length 1 (ratG l)]
theorem QV {ctr : Ctr} {Q : AV × Heap → Prop} (e : Int) (h : Heap) (hq : Q (.tup [.osl 0 1 0 ([] : List (List UInt8)).length, .int .i64 e], [.arr ([] : List (List UInt8)).length 1 (ratG [])])) : RetR ctr 0 (upQ Q) [.nils, .int .i64 e] h := by
 refine RetR.out0 (r := .tup [.nils, .int .i64 e]) (.inr ⟨_, [(1, ratG [])], ?_, hq⟩) (fun _ => by simp [resV, new2, new1, new0, qc]) (by simp [resV, exp2, exp1, exp0, ren0, eqA2, eqL1])
 simp [upA2, upA1, upA0, upL1, upL0]
theorem QP {n : Nat} {g : Nat → Nat → AV} {l : List (List UInt8)} (h : eqG n 1 g (ratG l)) : newB (.arr n 1 g) := by
 intro j o hj ho
 rw [h j o hj ho]; rfl
theorem Un {l : List (List UInt8)} (h : allQ l) (j : Nat) : (l.getD j []).length ≤ 2003 := by
 by_cases g : j < l.length
 ·exact qL (qM h g)
 ·simp only [List.getD]; rw [List.getElem?_eq_none (by omega)]; simp
noncomputable def GT2 : Nat → Option Ctr := fun f => if f = 55 then some (bexI) else if f = 56 then some (bofI) else if f = 23 then some (VT) else if f = 24 then some (JH) else if f = 27 then some (X0) else if f = 62 then some (Yv) else none
theorem Yx : ∀ g c, GT2 g = some c → ze Try.prog g c := okIf UY (okIf za7 (okIf QA (okIf yJ (okIf Vx (okIf Kd (zz))))))
theorem VC : ze Try.prog 31 J3 := by
 refine QR (fn := Try.f31) (c := Try.f31.body.getD .skip) rfl rfl rfl fun p hp O w0 Q hq => ?_
 obtain ⟨⟨n, ops⟩, inp⟩ := p
 obtain ⟨hc, hn, hqi⟩ := hp
 replace hq := hq _ rfl
 simp only at hc hn hqi hq
 refine zb.run hmix Yx [1, 6, 7, 18, 19, 20] 400 (T := .side ((0 : Int) ≤ ops.length ∧ (↑ops.length : Int) ≤ ops.length ∧ inR .i64 (↑ops.length : Int) ∧ Int.toNat (↑ops.length : Int) * 16 ≤ 140737488355328) (.leaf (.loop (Prod.fst (lps K31 0)) (Prod.snd (lps K31 0)) [(1, .sl inp.length 1 (ratG inp)), (6, .ptr 2 0), (7, .osl 3 1 0 (Int.toNat (↑ops.length : Int))), (18, .sl ops.length 4 (opG ops)), (19, .int .i64 ops.length), (20, .int .i64 0)] [.box [.int .i64 n, .sl ops.length 4 (opG ops)], .box [.fn 23 [] [], .fn 24 [] [], .fn 27 [] [], .fn 62 [] []], .box [.fn 23 [] [], .fn 24 [] [], .fn 27 [] [], .fn 62 [] []], .arr (Int.toNat (↑ops.length : Int)) 1 (jS [.str (Array.toList #[])])]))) (by kernel_rfl) ?_
 simp only [Tree.holds, zd]
 obtain ⟨c1, c2, c3, c4, c5⟩ := zV.1 hc
 simp only at c1 c2 c3 c4 c5
 simp only [inR, lo, hi, Int.toNat_natCast]
 refine ⟨⟨by omega, by omega, by omega, by omega⟩, fun _ => ?_⟩
 refine zb.loop (ι := {p : Nat × List (List UInt8) // p.1 ≤ ops.length ∧ p.2.length = p.1 ∧ allQ p.2 ∧ runF inp (ops.drop p.1) p.2 = runF inp ops []}) (fun p => SBr inp ops p.1.1) (fun p => HBr n ops p.1.2) (fun p => ops.length - p.1.1) ⟨(0, []), Nat.zero_le _, rfl, fun x hx => absurd hx (by simp), by simp⟩ 0 ?_ ?_ (by kernel_rfl)
 ·exact ⟨by simp [SBr, ratS, opS, za], ⟨by simp [opS, za], trivial, by simp, ⟨rfl, rfl, XM _⟩, trivial⟩, by kernel_rfl, Nat.zero_le _⟩
 rintro ⟨⟨i, l⟩, hil, hll, hlq, hlr⟩
 simp only at hil hll hlq hlr
 refine zb.run hmix Yx [1, 6, 7, 18, 19, 20] 400 (T := .ite (decide ((↑i : Int) < ops.length)) (.side ((0 : Int) ≤ i ∧ (↑i : Int) < ops.length) (.ite (decide (TOp.kind (List.getD ops (Int.toNat (↑i : Int)) TOp.nil) = (1 : Int))) (.side ((0 : Int) ≤ TOp.a (List.getD ops (Int.toNat (↑i : Int)) TOp.nil) ∧ TOp.a (List.getD ops (Int.toNat (↑i : Int)) TOp.nil) < (↑inp.length : Int)) (.side ((0 : Int) ≤ i ∧ (↑i : Int) < ops.length) (.side (inR .i64 ((↑i : Int) + (1 : Int))) (.leaf (.back 0 [(1, .sl inp.length 1 (ratG inp)), (6, .ptr 2 0), (7, .osl 3 1 0 ops.length), (18, .sl ops.length 4 (opG ops)), (19, .int .i64 ops.length), (20, .int .i64 ((↑i : Int) + (1 : Int)))] [.box [.int .i64 n, .sl ops.length 4 (opG ops)], .dead, .box [.fn 23 [] [], .fn 24 [] [], .fn 27 [] [], .fn 62 [] []], .arr ops.length 1 (updG (ratG l) (0 + Int.toNat (↑i : Int)) 0 [.str (List.getD inp (Int.toNat (TOp.a (List.getD ops (Int.toNat (↑i : Int)) TOp.nil))) [])]), .box [.int .u8 (TOp.kind (List.getD ops (Int.toNat (↑i : Int)) TOp.nil)), .int .i64 (TOp.a (List.getD ops (Int.toNat (↑i : Int)) TOp.nil)), .int .i64 (TOp.b (List.getD ops (Int.toNat (↑i : Int)) TOp.nil)), .str (TOp.rat (List.getD ops (Int.toNat (↑i : Int)) TOp.nil))]]))))) (.ite (decide (TOp.kind (List.getD ops (Int.toNat (↑i : Int)) TOp.nil) = (2 : Int))) (.side ((0 : Int) ≤ i ∧ (↑i : Int) < ops.length) (.side (inR .i64 ((↑i : Int) + (1 : Int))) (.leaf (.back 0 [(1, .sl inp.length 1 (ratG inp)), (6, .ptr 2 0), (7, .osl 3 1 0 ops.length), (18, .sl ops.length 4 (opG ops)), (19, .int .i64 ops.length), (20, .int .i64 ((↑i : Int) + (1 : Int)))] [.box [.int .i64 n, .sl ops.length 4 (opG ops)], .dead, .box [.fn 23 [] [], .fn 24 [] [], .fn 27 [] [], .fn 62 [] []], .arr ops.length 1 (updG (ratG l) (0 + Int.toNat (↑i : Int)) 0 [.str (TOp.rat (List.getD ops (Int.toNat (↑i : Int)) TOp.nil))]), .box [.int .u8 (TOp.kind (List.getD ops (Int.toNat (↑i : Int)) TOp.nil)), .int .i64 (TOp.a (List.getD ops (Int.toNat (↑i : Int)) TOp.nil)), .int .i64 (TOp.b (List.getD ops (Int.toNat (↑i : Int)) TOp.nil)), .str (TOp.rat (List.getD ops (Int.toNat (↑i : Int)) TOp.nil))]])))) (.side ((0 : Int) ≤ TOp.a (List.getD ops (Int.toNat (↑i : Int)) TOp.nil) ∧ TOp.a (List.getD ops (Int.toNat (↑i : Int)) TOp.nil) < (↑ops.length : Int)) (.side ((0 : Int) ≤ TOp.b (List.getD ops (Int.toNat (↑i : Int)) TOp.nil) ∧ TOp.b (List.getD ops (Int.toNat (↑i : Int)) TOp.nil) < (↑ops.length : Int)) (.ite (decide (TOp.kind (List.getD ops (Int.toNat (↑i : Int)) TOp.nil) = (3 : Int))) (.ex (fun (x : List UInt8 × List UInt8) => eqL [AV.str (List.getD l (0 + Int.toNat (TOp.a (List.getD ops (Int.toNat (↑i : Int)) TOp.nil))) []), AV.str (List.getD l (0 + Int.toNat (TOp.b (List.getD ops (Int.toNat (↑i : Int)) TOp.nil))) [])] [AV.str x.1, AV.str x.2] ∧ x.1.length < 2305843009213693952 ∧ x.2.length < 2305843009213693952) fun n_1 => .all (fun (r : List UInt8 × Int) => r = addR n_1.1 n_1.2) fun n_2 => .ite (!decide (n_2.2 = 0)) (.leaf (.ret [.nils, .int .i64 n_2.2] [.box [.int .i64 n, .sl ops.length 4 (opG ops)], .dead, .box [.fn 23 [] [], .fn 24 [] [], .fn 27 [] [], .fn 62 [] []], .arr ops.length 1 (ratG l), .box [.int .u8 (TOp.kind (List.getD ops (Int.toNat (↑i : Int)) TOp.nil)), .int .i64 (TOp.a (List.getD ops (Int.toNat (↑i : Int)) TOp.nil)), .int .i64 (TOp.b (List.getD ops (Int.toNat (↑i : Int)) TOp.nil)), .str (TOp.rat (List.getD ops (Int.toNat (↑i : Int)) TOp.nil))], .box [.fn 23 [] [], .fn 24 [] [], .fn 27 [] [], .fn 62 [] []]])) (.side ((0 : Int) ≤ i ∧ (↑i : Int) < ops.length) (.side (inR .i64 ((↑i : Int) + (1 : Int))) (.leaf (.back 0 [(1, .sl inp.length 1 (ratG inp)), (6, .ptr 2 0), (7, .osl 3 1 0 ops.length), (18, .sl ops.length 4 (opG ops)), (19, .int .i64 ops.length), (20, .int .i64 ((↑i : Int) + (1 : Int)))] [.box [.int .i64 n, .sl ops.length 4 (opG ops)], .dead, .box [.fn 23 [] [], .fn 24 [] [], .fn 27 [] [], .fn 62 [] []], .arr ops.length 1 (updG (ratG l) (0 + Int.toNat (↑i : Int)) 0 [.str n_2.1]), .box [.int .u8 (TOp.kind (List.getD ops (Int.toNat (↑i : Int)) TOp.nil)), .int .i64 (TOp.a (List.getD ops (Int.toNat (↑i : Int)) TOp.nil)), .int .i64 (TOp.b (List.getD ops (Int.toNat (↑i : Int)) TOp.nil)), .str (TOp.rat (List.getD ops (Int.toNat (↑i : Int)) TOp.nil))], .box [.fn 23 [] [], .fn 24 [] [], .fn 27 [] [], .fn 62 [] []]]))))) (.ite (decide (TOp.kind (List.getD ops (Int.toNat (↑i : Int)) TOp.nil) = (4 : Int))) (.ex (fun (x : List UInt8 × List UInt8) => eqL [AV.str (List.getD l (0 + Int.toNat (TOp.a (List.getD ops (Int.toNat (↑i : Int)) TOp.nil))) []), AV.str (List.getD l (0 + Int.toNat (TOp.b (List.getD ops (Int.toNat (↑i : Int)) TOp.nil))) [])] [AV.str x.1, AV.str x.2] ∧ x.1.length < 2305843009213693952 ∧ x.2.length < 2305843009213693952) fun n_1 => .all (fun (r : List UInt8 × Int) => r = subR n_1.1 n_1.2) fun n_2 => .ite (!decide (n_2.2 = 0)) (.leaf (.ret [.nils, .int .i64 n_2.2] [.box [.int .i64 n, .sl ops.length 4 (opG ops)], .dead, .box [.fn 23 [] [], .fn 24 [] [], .fn 27 [] [], .fn 62 [] []], .arr ops.length 1 (ratG l), .box [.int .u8 (TOp.kind (List.getD ops (Int.toNat (↑i : Int)) TOp.nil)), .int .i64 (TOp.a (List.getD ops (Int.toNat (↑i : Int)) TOp.nil)), .int .i64 (TOp.b (List.getD ops (Int.toNat (↑i : Int)) TOp.nil)), .str (TOp.rat (List.getD ops (Int.toNat (↑i : Int)) TOp.nil))], .box [.fn 23 [] [], .fn 24 [] [], .fn 27 [] [], .fn 62 [] []]])) (.side ((0 : Int) ≤ i ∧ (↑i : Int) < ops.length) (.side (inR .i64 ((↑i : Int) + (1 : Int))) (.leaf (.back 0 [(1, .sl inp.length 1 (ratG inp)), (6, .ptr 2 0), (7, .osl 3 1 0 ops.length), (18, .sl ops.length 4 (opG ops)), (19, .int .i64 ops.length), (20, .int .i64 ((↑i : Int) + (1 : Int)))] [.box [.int .i64 n, .sl ops.length 4 (opG ops)], .dead, .box [.fn 23 [] [], .fn 24 [] [], .fn 27 [] [], .fn 62 [] []], .arr ops.length 1 (updG (ratG l) (0 + Int.toNat (↑i : Int)) 0 [.str n_2.1]), .box [.int .u8 (TOp.kind (List.getD ops (Int.toNat (↑i : Int)) TOp.nil)), .int .i64 (TOp.a (List.getD ops (Int.toNat (↑i : Int)) TOp.nil)), .int .i64 (TOp.b (List.getD ops (Int.toNat (↑i : Int)) TOp.nil)), .str (TOp.rat (List.getD ops (Int.toNat (↑i : Int)) TOp.nil))], .box [.fn 23 [] [], .fn 24 [] [], .fn 27 [] [], .fn 62 [] []]]))))) (.ite (decide (TOp.kind (List.getD ops (Int.toNat (↑i : Int)) TOp.nil) = (5 : Int))) (.ex (fun (x : List UInt8 × List UInt8) => eqL [AV.str (List.getD l (0 + Int.toNat (TOp.a (List.getD ops (Int.toNat (↑i : Int)) TOp.nil))) []), AV.str (List.getD l (0 + Int.toNat (TOp.b (List.getD ops (Int.toNat (↑i : Int)) TOp.nil))) [])] [AV.str x.1, AV.str x.2] ∧ x.1.length < 2305843009213693952 ∧ x.2.length < 2305843009213693952) fun n_1 => .all (fun (r : List UInt8 × Int) => r = mulR n_1.1 n_1.2) fun n_2 => .ite (!decide (n_2.2 = 0)) (.leaf (.ret [.nils, .int .i64 n_2.2] [.box [.int .i64 n, .sl ops.length 4 (opG ops)], .dead, .box [.fn 23 [] [], .fn 24 [] [], .fn 27 [] [], .fn 62 [] []], .arr ops.length 1 (ratG l), .box [.int .u8 (TOp.kind (List.getD ops (Int.toNat (↑i : Int)) TOp.nil)), .int .i64 (TOp.a (List.getD ops (Int.toNat (↑i : Int)) TOp.nil)), .int .i64 (TOp.b (List.getD ops (Int.toNat (↑i : Int)) TOp.nil)), .str (TOp.rat (List.getD ops (Int.toNat (↑i : Int)) TOp.nil))], .box [.fn 23 [] [], .fn 24 [] [], .fn 27 [] [], .fn 62 [] []]])) (.side ((0 : Int) ≤ i ∧ (↑i : Int) < ops.length) (.side (inR .i64 ((↑i : Int) + (1 : Int))) (.leaf (.back 0 [(1, .sl inp.length 1 (ratG inp)), (6, .ptr 2 0), (7, .osl 3 1 0 ops.length), (18, .sl ops.length 4 (opG ops)), (19, .int .i64 ops.length), (20, .int .i64 ((↑i : Int) + (1 : Int)))] [.box [.int .i64 n, .sl ops.length 4 (opG ops)], .dead, .box [.fn 23 [] [], .fn 24 [] [], .fn 27 [] [], .fn 62 [] []], .arr ops.length 1 (updG (ratG l) (0 + Int.toNat (↑i : Int)) 0 [.str n_2.1]), .box [.int .u8 (TOp.kind (List.getD ops (Int.toNat (↑i : Int)) TOp.nil)), .int .i64 (TOp.a (List.getD ops (Int.toNat (↑i : Int)) TOp.nil)), .int .i64 (TOp.b (List.getD ops (Int.toNat (↑i : Int)) TOp.nil)), .str (TOp.rat (List.getD ops (Int.toNat (↑i : Int)) TOp.nil))], .box [.fn 23 [] [], .fn 24 [] [], .fn 27 [] [], .fn 62 [] []]]))))) (.ex (fun (x : List UInt8 × List UInt8) => eqL [AV.str (List.getD l (0 + Int.toNat (TOp.a (List.getD ops (Int.toNat (↑i : Int)) TOp.nil))) []), AV.str (List.getD l (0 + Int.toNat (TOp.b (List.getD ops (Int.toNat (↑i : Int)) TOp.nil))) [])] [AV.str x.1, AV.str x.2] ∧ x.1.length < 2305843009213693952 ∧ x.2.length < 2305843009213693952) fun n_1 => .all (fun (r : List UInt8 × Int) => r = divR n_1.1 n_1.2) fun n_2 => .ite (!decide (n_2.2 = 0)) (.leaf (.ret [.nils, .int .i64 n_2.2] [.box [.int .i64 n, .sl ops.length 4 (opG ops)], .dead, .box [.fn 23 [] [], .fn 24 [] [], .fn 27 [] [], .fn 62 [] []], .arr ops.length 1 (ratG l), .box [.int .u8 (TOp.kind (List.getD ops (Int.toNat (↑i : Int)) TOp.nil)), .int .i64 (TOp.a (List.getD ops (Int.toNat (↑i : Int)) TOp.nil)), .int .i64 (TOp.b (List.getD ops (Int.toNat (↑i : Int)) TOp.nil)), .str (TOp.rat (List.getD ops (Int.toNat (↑i : Int)) TOp.nil))], .box [.fn 23 [] [], .fn 24 [] [], .fn 27 [] [], .fn 62 [] []]])) (.side ((0 : Int) ≤ i ∧ (↑i : Int) < ops.length) (.side (inR .i64 ((↑i : Int) + (1 : Int))) (.leaf (.back 0 [(1, .sl inp.length 1 (ratG inp)), (6, .ptr 2 0), (7, .osl 3 1 0 ops.length), (18, .sl ops.length 4 (opG ops)), (19, .int .i64 ops.length), (20, .int .i64 ((↑i : Int) + (1 : Int)))] [.box [.int .i64 n, .sl ops.length 4 (opG ops)], .dead, .box [.fn 23 [] [], .fn 24 [] [], .fn 27 [] [], .fn 62 [] []], .arr ops.length 1 (updG (ratG l) (0 + Int.toNat (↑i : Int)) 0 [.str n_2.1]), .box [.int .u8 (TOp.kind (List.getD ops (Int.toNat (↑i : Int)) TOp.nil)), .int .i64 (TOp.a (List.getD ops (Int.toNat (↑i : Int)) TOp.nil)), .int .i64 (TOp.b (List.getD ops (Int.toNat (↑i : Int)) TOp.nil)), .str (TOp.rat (List.getD ops (Int.toNat (↑i : Int)) TOp.nil))], .box [.fn 23 [] [], .fn 24 [] [], .fn 27 [] [], .fn 62 [] []]]))))))))))))) (.leaf (.ret [.osl 3 1 0 ops.length, .int .i64 0] [.box [.int .i64 n, .sl ops.length 4 (opG ops)], .dead, .box [.fn 23 [] [], .fn 24 [] [], .fn 27 [] [], .fn 62 [] []], .arr ops.length 1 (ratG l)]))) (by kernel_rfl) ?_
 simp only [Tree.holds, zd, inR, lo, hi, Int.toNat_natCast]
 refine ⟨fun hlt => ?_, fun hge => ?_⟩
 ·have hlt : i < ops.length := by have := of_decide_eq_true hlt; omega
  have hok := vQ c5 hlt
  rw [Kg hlt] at hlr
  obtain ⟨o, ho⟩ : ∃ o, ops.getD i TOp.nil = o := ⟨_, rfl⟩
  rw [ho] at hlr hok
  simp only [ho, Nat.zero_add]
  simp only at hok
  refine ⟨by omega, fun _ => ?_⟩
  have hst := QK hqi hn hlq (by rw [hll]; exact hok)
  have bad : ∀ (e : Int) (h : Heap), (zC inp l o).2 = e → e ≠ 0 → RetR J3 0 (upQ Q) [.nils, .int .i64 e] h := by
   rintro e h rfl hne
   rw [if_pos hne] at hlr
   rw [← hlr] at hq
   exact QV _ h hq
  have good : ∀ (v : List UInt8) (b : Heap), (zC inp l o).2 = 0 → (zC inp l o).1 = v → ∃ x' : {p : Nat × List (List UInt8) // p.1 ≤ ops.length ∧ p.2.length = p.1 ∧ allQ p.2 ∧ runF inp (ops.drop p.1) p.2 = runF inp ops []}, ops.length - x'.1.1 < ops.length - i ∧
    LeK 0 Try.f31.ntmps [(1, ratS inp), (6, .ptr 2 0), (7, .osl 3 1 0 ops.length), (18, opS ops), (19, .int .i64 (ops.length : Int)), (20, .int .i64 ((i : Int) + 1))] ([.box [.int .i64 n, opS ops], .dead, .box [.fn 23 [] [], .fn 24 [] [], .fn 27 [] [], .fn 62 [] []], .arr ops.length 1 (updG (ratG l) i 0 [.str v])] ++ b) (SBr inp ops x'.1.1) (HBr n ops x'.1.2) := by
   rintro v b he rfl
   rw [if_neg (by simp [he])] at hlr
   refine ⟨⟨(i + 1, l ++ [(zC inp l o).1]), hlt, by simp [hll], ZK hlq (hst he), hlr⟩, by show ops.length - (i + 1) < ops.length - i; omega, ?_, ?_, rfl, Nat.zero_le _⟩
   ·simp [SBr, ratS, opS, za]
   ·simp only [HBr, List.cons_append]
    refine ⟨by simp [opS, za], trivial, by simp, ⟨rfl, rfl, ?_⟩, by cases b <;> trivial⟩
    exact YU hll
  have la := Un hlq
  refine ⟨fun k1 => ?_, fun k1 => ⟨fun k2 => ?_, fun k2 => ?_⟩⟩
  ·have k1 := of_decide_eq_true k1
   have h1 := qR hok
   refine ⟨by omega, fun _ => ⟨by omega, fun _ => ⟨by omega, fun _ => ?_⟩⟩⟩
   rw [if_pos trivial]
   exact good _ [_] (by unfold zC; rw [if_pos k1]) (by unfold zC; rw [if_pos k1])
  ·have k1 := of_decide_eq_false k1
   have k2 := of_decide_eq_true k2
   refine ⟨by omega, fun _ => ⟨by omega, fun _ => ?_⟩⟩
   rw [if_pos trivial]
   exact good _ [_] (by unfold zC; rw [if_neg k1, if_pos k2]) (by unfold zC; rw [if_neg k1, if_pos k2])
  ·have k1 := of_decide_eq_false k1
   have k2 := of_decide_eq_false k2
   have h1 := qR hok
   have hv : zC inp l o = arR o.kind (l.getD o.a.toNat []) (l.getD o.b.toNat []) := by unfold zC; rw [if_neg k1, if_neg k2]
   have fin : ∀ (r : List UInt8 × Int) (h b : Heap), r = arR o.kind (l.getD o.a.toNat []) (l.getD o.b.toNat []) → ((!decide (r.2 = 0)) = true → RetR J3 0 (upQ Q) [.nils, .int .i64 r.2] h) ∧ ((!decide (r.2 = 0)) = false → (0 ≤ (i : Int) ∧ (i : Int) < ops.length) ∧ (0 ≤ (i : Int) ∧ (i : Int) < ops.length → (-9223372036854775808 ≤ (i : Int) + 1 ∧ (i : Int) + 1 ≤ 9223372036854775807) ∧ (-9223372036854775808 ≤ (i : Int) + 1 ∧ (i : Int) + 1 ≤ 9223372036854775807 → if True then
     ∃ x' : {p : Nat × List (List UInt8) // p.1 ≤ ops.length ∧ p.2.length = p.1 ∧ allQ p.2 ∧ runF inp (ops.drop p.1) p.2 = runF inp ops []}, ops.length - x'.1.1 < ops.length - i ∧
    LeK 0 Try.f31.ntmps [(1, ratS inp), (6, .ptr 2 0), (7, .osl 3 1 0 ops.length), (18, opS ops), (19, .int .i64 (ops.length : Int)), (20, .int .i64 ((i : Int) + 1))] ([.box [.int .i64 n, opS ops], .dead, .box [.fn 23 [] [], .fn 24 [] [], .fn 27 [] [], .fn 62 [] []], .arr ops.length 1 (updG (ratG l) i 0 [.str r.1])] ++ b) (SBr inp ops x'.1.1) (HBr n ops x'.1.2) else False))) := by
    rintro r h b hr
    rw [← hv] at hr
    refine ⟨fun h1 => ?_, fun h1 => ⟨by omega, fun _ => ⟨by omega, fun _ => ?_⟩⟩⟩
    ·exact bad _ _ (by rw [hr]) (by simpa using h1)
    ·rw [if_pos trivial]
     exact good _ b (by rw [← hr]; simpa using h1) (by rw [hr])
   refine ⟨by omega, fun _ => ⟨by omega, fun _ => ?_⟩⟩
   have l1 := la o.a.toNat
   have l2 := la o.b.toNat
   refine ⟨fun k3 => ?_, fun k3 => ⟨fun k4 => ?_, fun k4 => ⟨fun k5 => ?_, fun k5 => ?_⟩⟩⟩
   all_goals
    refine ⟨(l.getD o.a.toNat [], l.getD o.b.toNat []), ⟨⟨rfl, rfl, trivial⟩, by show (l.getD o.a.toNat []).length < _; omega, by show (l.getD o.b.toNat []).length < _; omega⟩, ⟨_, rfl⟩, ?_⟩
    rintro _ rfl
   ·have k3 := of_decide_eq_true k3
    exact fin _ _ [_, _] (by unfold arR; rw [if_pos k3])
   ·have k3 := of_decide_eq_false k3
    have k4 := of_decide_eq_true k4
    exact fin _ _ [_, _] (by unfold arR; rw [if_neg k3, if_pos k4])
   ·have k3 := of_decide_eq_false k3
    have k4 := of_decide_eq_false k4
    have k5 := of_decide_eq_true k5
    exact fin _ _ [_, _] (by unfold arR; rw [if_neg k3, if_neg k4, if_pos k5])
   ·have k3 := of_decide_eq_false k3
    have k4 := of_decide_eq_false k4
    have k5 := of_decide_eq_false k5
    exact fin _ _ [_, _] (by unfold arR; rw [if_neg k3, if_neg k4, if_neg k5])
 ·have hge : i = ops.length := by have := of_decide_eq_false hge; omega
  subst hge
  rw [XI] at hlr
  rw [← hlr] at hq
  simp only at hq
  rw [hll] at hq
  refine RetR.outs [3] rfl rfl (.inl hq) (fun _ => ⟨?_, ?_⟩) ?_ ?_ rfl
  ·simp [resV, new2, new1, new0, z0, qc]
  ·simp only [List.mem_cons, List.not_mem_nil, or_false, forall_eq]
   exact QP (za _ _ _)
  ·simp [resV, exp2, exp1, exp0, z0, ren0, eqA2, eqL1]
  ·exact ⟨⟨rfl, rfl, za _ _ _⟩, trivial⟩
end Go.Proofs.Try
end

/- Tapes: runs with their checks, values, degrees. -/
section
set_option maxRecDepth 100000
open Go Go.Sx Go.Proofs Go.Nov
namespace Go.Proofs.Try
attribute [local simp] eqKV eqA eqA0 eqH eqB eqL eqL0
noncomputable def K10 : List Go.Sx.Item := [.code (Try.f10.body.getD .skip)]
noncomputable def K14 : List Go.Sx.Item := [.code (Try.f14.body.getD .skip)]
def Xf : Ctr := ctrP true (fun p : Tp × List (List UInt8) => [p.1.av, ratS p.2]) (fun p => zy p.1 ∧ zN p.2) (fun p r => r = trun p.1 p.2) (fun _ (r : List (List UInt8) × Int) => (.tup [.osl 0 1 0 r.1.length, .int .i64 r.2], [.arr r.1.length 1 (ratG r.1)]))
def SbRn (inp : List (List UInt8)) (i : Nat) : KV := [(1, ratS inp), (2, .ptr 0 0), (20, ratS inp), (21, .int .i64 (inp.length : Int)), (22, .int .i64 (i : Int))]
def HbRn (n : Int) (ops : List TOp) : Heap := [.box [.int .i64 n, opS ops]]
noncomputable def GT3 : Nat → Option Ctr := fun f => if f = 17 then some (yA) else if f = 30 then some (ky) else if f = 31 then some (J3) else none
theorem XY : ∀ g c, GT3 g = some c → ze Try.prog g c := okIf xU (okIf wW (okIf VC (zz)))
theorem YV : ze Try.prog 10 Xf := by
 refine QR (fn := Try.f10) (c := Try.f10.body.getD .skip) rfl rfl rfl fun p hp O w0 Q hq => ?_
 obtain ⟨⟨n, ops⟩, inp⟩ := p
 obtain ⟨hs, hr⟩ := hp
 replace hq := hq _ rfl
 simp only at hs hr hq
 refine zb.run hmix XY [1, 2, 20, 21, 22] 400 (T := .ex (fun (x : Tp) => eqL [AV.agg [AV.int .i64 n, AV.sl ops.length 4 (opG ops)]] [AV.agg [AV.int .i64 (Tp.n x), AV.sl (List.length (Tp.ops x)) 4 (opG (Tp.ops x))]] ∧ zy x) fun n_1 => .all (fun (r : Int) => r = zf n_1) fun n_2 => .ite (!decide (n_2 = 0)) (.leaf (.ret [.nils, .int .i64 n_2] [.box [.int .i64 n, .sl ops.length 4 (opG ops)]])) (.ite (!decide ((↑inp.length : Int) = n)) (.leaf (.ret [.nils, .int .i64 2] [.box [.int .i64 n, .sl ops.length 4 (opG ops)]])) (.leaf (.loop (Prod.fst (lps K10 0)) (Prod.snd (lps K10 0)) [(1, .sl inp.length 1 (ratG inp)), (2, .ptr 0 0), (20, .sl inp.length 1 (ratG inp)), (21, .int .i64 inp.length), (22, .int .i64 0)] [.box [.int .i64 n, .sl ops.length 4 (opG ops)]])))) (by kernel_rfl) ?_
 simp only [Tree.holds, zd]
 have bad : ∀ (e : Int) (h : Heap), preT ⟨n, ops⟩ inp = e → e ≠ 0 → RetR Xf 0 (upQ Q) [.nils, .int .i64 e] h := by
  rintro e h rfl hne
  have e : trun ⟨n, ops⟩ inp = ([], preT ⟨n, ops⟩ inp) := by unfold trun; rw [if_pos hne]
  rw [e] at hq
  exact QV _ h hq
 refine ⟨⟨n, ops⟩, ⟨⟨⟨⟨rfl, rfl⟩, ⟨rfl, rfl, za _ _ _⟩, trivial⟩, trivial⟩, hs⟩, ⟨_, rfl⟩, ?_⟩
 rintro _ rfl
 refine ⟨fun h => ?_, fun h => ⟨fun h2 => ?_, fun h2 => ?_⟩⟩
 ·have h : zf ⟨n, ops⟩ ≠ 0 := by simpa using h
  exact bad _ _ (by unfold preT; rw [if_pos h]) h
 ·have h : zf ⟨n, ops⟩ = 0 := by simpa using h
  have h2 : (inp.length : Int) ≠ n := by simpa using h2
  exact bad _ _ (by unfold preT; rw [if_neg (by simp [h]), if_pos h2]) (by decide)
 have h : zf ⟨n, ops⟩ = 0 := by simpa using h
 have h2 : (inp.length : Int) = n := by simpa using h2
 have hpre : preT ⟨n, ops⟩ inp = vZ inp := by unfold preT; rw [if_neg (by simp [h]), if_neg (by simp [h2])]
 obtain ⟨hr1, hr2⟩ := hr
 refine zb.loop (ι := {i : Nat // i ≤ inp.length ∧ vZ (inp.drop i) = vZ inp}) (fun i => SbRn inp i.1) (fun _ => HbRn n ops) (fun i => inp.length - i.1) ⟨0, Nat.zero_le _, rfl⟩ 0 ?_ ?_ (by kernel_rfl)
 ·exact ⟨by simp [SbRn, ratS, za], by simp [HbRn, opS, za], by kernel_rfl, Nat.zero_le _⟩
 rintro ⟨i, hil, hie⟩
 refine zb.run hmix XY [1, 2, 20, 21, 22] 400 (T := .ite (decide ((↑i : Int) < inp.length)) (.side ((0 : Int) ≤ i ∧ (↑i : Int) < inp.length) (.ex (fun (x : List UInt8) => eqL [AV.str (List.getD inp (Int.toNat (↑i : Int)) [])] [AV.str x] ∧ x.length < 4611686018427387904) fun n_1 => .all (fun (r : Int) => r = errR n_1) fun n_2 => .ite (!decide (n_2 = 0)) (.leaf (.ret [.nils, .int .i64 n_2] [.box [.int .i64 n, .sl ops.length 4 (opG ops)]])) (.side (inR .i64 ((↑i : Int) + (1 : Int))) (.leaf (.back 0 [(1, .sl inp.length 1 (ratG inp)), (2, .ptr 0 0), (20, .sl inp.length 1 (ratG inp)), (21, .int .i64 inp.length), (22, .int .i64 ((↑i : Int) + (1 : Int)))] [.box [.int .i64 n, .sl ops.length 4 (opG ops)]]))))) (.ex (fun (x : Tp × List (List UInt8)) => eqL [AV.agg [AV.int .i64 n, AV.sl ops.length 4 (opG ops)], AV.sl inp.length 1 (ratG inp)] [AV.agg [AV.int .i64 (Tp.n x.1), AV.sl (List.length (Tp.ops x.1)) 4 (opG (Tp.ops x.1))], AV.sl x.2.length 1 (ratG x.2)] ∧ zf x.1 = 0 ∧ (↑x.2.length : Int) = Tp.n x.1 ∧ allQ x.2) fun n_1 => .all (fun (r : List (List UInt8) × Int) => r = runF n_1.2 (Tp.ops n_1.1) []) fun n_2 => .leaf (.ret [.osl 1 1 0 n_2.1.length, .int .i64 n_2.2] [.box [.int .i64 n, .sl ops.length 4 (opG ops)], .arr n_2.1.length 1 (ratG n_2.1)]))) (by kernel_rfl) ?_
 simp only [Tree.holds, zd, inR, lo, hi, Int.toNat_natCast]
 refine ⟨fun hlt => ?_, fun hge => ?_⟩
 ·have hlt : i < inp.length := by have := of_decide_eq_true hlt; omega
  rw [Wx hlt] at hie
  have hl := hr2 i hlt
  refine ⟨by omega, fun _ => ⟨inp.getD i [], ⟨⟨rfl, trivial⟩, by omega⟩, ⟨_, rfl⟩, ?_⟩⟩
  rintro _ rfl
  refine ⟨fun h3 => ?_, fun h3 => ⟨by omega, fun _ => ?_⟩⟩
  ·have h3 : errR (inp.getD i []) ≠ 0 := by simpa using h3
   rw [if_pos h3] at hie
   exact bad _ _ (by rw [hpre, hie]) h3
  ·have h3 : errR (inp.getD i []) = 0 := by simpa using h3
   rw [if_neg (fun g => g h3)] at hie
   rw [if_pos trivial]
   exact ⟨⟨i + 1, hlt, hie⟩, by show inp.length - (i + 1) < inp.length - i; omega, by simp [SbRn, ratS, za], by simp [HbRn, opS, za], by kernel_rfl, Nat.zero_le _⟩
 ·have hge : i = inp.length := by have := of_decide_eq_false hge; omega
  subst hge
  rw [List.drop_length] at hie
  have hq0 : allQ inp := Qr.1 hie.symm
  refine ⟨(⟨n, ops⟩, inp), ⟨⟨⟨⟨rfl, rfl⟩, ⟨rfl, rfl, za _ _ _⟩, trivial⟩, ⟨rfl, rfl, za _ _ _⟩, trivial⟩, h, h2, hq0⟩, ⟨_, rfl⟩, ?_⟩
  rintro _ rfl
  have e : trun ⟨n, ops⟩ inp = runF inp ops [] := by unfold trun; rw [if_neg]; rw [hpre, ← hie]; simp [vZ]
  rw [e] at hq
  refine RetR.outs [1] rfl rfl (.inl hq) (fun _ => ⟨?_, ?_⟩) ?_ ?_ rfl
  ·simp [resV, new2, new1, new0, z0, qc]
  ·simp only [List.mem_cons, List.not_mem_nil, or_false, forall_eq]
   exact QP (za _ _ _)
  ·simp [resV, exp2, exp1, exp0, z0, ren0, eqA2, eqL1]
  ·exact ⟨⟨rfl, rfl, za _ _ _⟩, trivial⟩
theorem Xg {t : Tp} {inp : List (List UInt8)} (h : (trun t inp).2 = 0) : zf t = 0 ∧ allQ (trun t inp).1 ∧ (trun t inp).1.length = t.ops.length := by
 unfold trun at h ⊢
 by_cases g : preT t inp = 0
 ·rw [if_neg (fun k => k g)] at h ⊢
  obtain ⟨p1, p2, p3⟩ := JV.1 g
  obtain ⟨c1, c2, c3, c4, c5⟩ := zV.1 p1
  obtain ⟨a1, a2, a3⟩ := xR (n := t.n) p3 p2 t.ops [] _ (fun y hy => absurd hy (by simp)) (jg c5 t.ops 0 (List.drop_zero)) (show runF inp t.ops [] = ((runF inp t.ops []).1, 0) by rw [← h])
  exact ⟨p1, a1, by simpa using a3⟩
 ·rw [if_pos g] at h; exact absurd h g
noncomputable def Ve : Ctr := inlC Try.prog noG 100 Try.f34
theorem J0 : ze Try.prog 34 Ve := vI hmix zG rfl rfl
def KT : Ctr := ctrP true (fun p : Tp × List (List UInt8) => [p.1.av, ratS p.2]) (fun p => zy p.1 ∧ zN p.2) (fun p r => r = zw p.1 p.2) (fun _ (r : List UInt8 × Int) => (.tup [.str r.1, .int .i64 r.2], []))
noncomputable def GT4 : Nat → Option Ctr := fun f => if f = 10 then some (Xf) else if f = 34 then some (Ve) else none
theorem UP : ∀ g c, GT4 g = some c → ze Try.prog g c := okIf YV (okIf J0 (zz))
theorem Kf : ze Try.prog 12 KT := by
 refine zr (fn := Try.f12) (c := Try.f12.body.getD .skip) rfl rfl rfl fun p hp O w0 Q hq => ?_
 obtain ⟨⟨n, ops⟩, inp⟩ := p
 replace hq := hq _ rfl
 simp only at hp hq
 refine zb.run hmix UP [] 400 (T := .ex (fun (x : Tp × List (List UInt8)) => eqL [AV.agg [AV.int .i64 n, AV.sl ops.length 4 (opG ops)], AV.sl inp.length 1 (ratG inp)] [AV.agg [AV.int .i64 (Tp.n x.1), AV.sl (List.length (Tp.ops x.1)) 4 (opG (Tp.ops x.1))], AV.sl x.2.length 1 (ratG x.2)] ∧ zy x.1 ∧ zN x.2) fun n_1 => .all (fun (r : List (List UInt8) × Int) => r = trun n_1.1 n_1.2) fun n_2 => .ite (!decide (n_2.2 = 0)) (.leaf (.ret [.str (Array.toList #[]), .int .i64 n_2.2] [.box [.int .i64 n, .sl ops.length 4 (opG ops)], .arr n_2.1.length 1 (ratG n_2.1)])) (.side (inR .i64 ((↑n_2.1.length : Int) - (1 : Int))) (.side ((0 : Int) ≤ n_2.1.length - (1 : Int) ∧ (↑n_2.1.length : Int) - (1 : Int) < n_2.1.length) (.leaf (.ret [.str (List.getD n_2.1 (0 + Int.toNat ((↑n_2.1.length : Int) - (1 : Int))) []), .int .i64 0] [.box [.int .i64 n, .sl ops.length 4 (opG ops)], .arr n_2.1.length 1 (ratG n_2.1)]))))) (by kernel_rfl) ?_
 simp only [Tree.holds, zd]
 refine ⟨(⟨n, ops⟩, inp), ⟨⟨⟨⟨rfl, rfl⟩, ⟨rfl, rfl, za _ _ _⟩, trivial⟩, ⟨rfl, rfl, za _ _ _⟩, trivial⟩, hp.1, hp.2⟩, ⟨_, rfl⟩, ?_⟩
 intro r hr
 replace hr : r = trun ⟨n, ops⟩ inp := hr
 unfold zw qK at hq
 rw [← hr] at hq
 simp only [inR, lo, hi]
 refine ⟨fun h => ?_, fun h => ?_⟩
 ·have h : r.2 ≠ 0 := by simpa using h
  rw [if_pos h] at hq
  exact RetR.scal hq rfl (by simp [resV])
 ·have h : r.2 = 0 := by simpa using h
  rw [if_neg (fun g => g h)] at hq
  obtain ⟨c, _, l⟩ := Xg (hr ▸ h)
  rw [← hr] at l
  obtain ⟨c1, _, _, c4, _⟩ := zV.1 c
  refine ⟨by omega, fun _ => ⟨by omega, fun _ => ?_⟩⟩
  have e : 0 + ((r.1.length : Int) - 1).toNat = r.1.length - 1 := by omega
  rw [e]
  exact RetR.scal hq rfl (by simp [resV])
def Uu : Ctr := ctrP true (fun p : Tp × Int => [p.1.av, .int .i64 p.2]) (fun p => zy p.1) (fun p r => r = degT p.1 p.2) (fun _ (r : Int × Int) => (.tup [.int .i64 r.1, .int .i64 r.2], []))
theorem Qu {l : List Int} {v : Int} {n i : Nat} (h : l.length = i) : eqG n 1 (tgI .i64 (updI (dgF l) i v)) (tgI .i64 (dgF (l ++ [v]))) := by
 intro j o hj ho
 simp only [tgI, updI, dgF]
 congr 1
 by_cases hji : j = i
 ·subst hji; subst h
  simp [List.getD]
 ·rw [if_neg hji]
  simp only [List.getD, List.getElem?_append]
  split
  ·rfl
  ·rename_i g
   rw [List.getElem?_eq_none (by omega), List.getElem?_eq_none (by simp; omega)]
theorem Uc (n : Nat) : eqG n 1 (jS [.int .i64 0]) (tgI .i64 (dgF [])) := by
 intro j o hj ho
 have ho : o = 0 := by omega
 subst ho
 simp [jS, tgI, dgF]
theorem YQ {l : List Int} {n i : Nat} (h : l.length = i) : eqG n 1 (tgI .i64 (dgF l)) (tgI .i64 (dgF (l ++ [0]))) := by
 intro j o hj ho
 simp only [tgI, dgF]
 congr 1
 simp only [List.getD, List.getElem?_append]
 split
 ·rfl
 ·rename_i g
  rw [List.getElem?_eq_none (by omega)]
  by_cases hji : j = l.length
  ·subst hji; simp
  ·rw [List.getElem?_eq_none (by simp; omega)]
def SbDg (k : Int) (ops : List TOp) (i : Nat) : KV := [(1, .int .i64 k), (7, .osl 1 1 0 ops.length), (27, opS ops), (28, .int .i64 (ops.length : Int)), (29, .int .i64 (i : Int)), (38, .undef), (39, .undef), (40, .undef), (41, .undef), (69, .undef), (70, .undef), (73, .undef), (74, .undef), (75, .undef), (76, .undef), (77, .undef), (78, .undef), (79, .undef)]
def HbDg (n : Int) (ops : List TOp) (l : List Int) : Heap := [.box [.int .i64 n, opS ops], .arrI .i64 ops.length (dgF l)]
noncomputable def GT5 : Nat → Option Ctr := fun f => if f = 17 then some (yA) else if f = 35 then some (bwI) else none
theorem Y8 : ∀ g c, GT5 g = some c → ze Try.prog g c := okIf xU (okIf VG (zz))
theorem Uj : ze Try.prog 14 Uu := by
 refine zr (fn := Try.f14) (c := Try.f14.body.getD .skip) rfl rfl rfl fun p hp O w0 Q hq => ?_
 obtain ⟨⟨n, ops⟩, k⟩ := p
 replace hq := hq _ rfl
 simp only at hp hq
 refine zb.run hmix Y8 [1, 7, 27, 28, 29, 38, 39, 40, 41, 69, 70, 73, 74, 75, 76, 77, 78, 79] 400 (T := .ex (fun (x : Tp) => eqL [AV.agg [AV.int .i64 n, AV.sl ops.length 4 (opG ops)]] [AV.agg [AV.int .i64 (Tp.n x), AV.sl (List.length (Tp.ops x)) 4 (opG (Tp.ops x))]] ∧ zy x) fun n_1 => .all (fun (r : Int) => r = zf n_1) fun n_2 => .ite (!decide (n_2 = 0)) (.leaf (.ret [.int .i64 0, .int .i64 n_2] [.box [.int .i64 n, .sl ops.length 4 (opG ops)]])) (.ite (!bif decide ((0 : Int) ≤ k) then decide (k < n) else false) (.leaf (.ret [.int .i64 0, .int .i64 2] [.box [.int .i64 n, .sl ops.length 4 (opG ops)]])) (.side ((0 : Int) ≤ ops.length ∧ (↑ops.length : Int) ≤ ops.length ∧ inR .i64 (↑ops.length : Int) ∧ Int.toNat (↑ops.length : Int) * 8 ≤ 140737488355328) (.leaf (.loop (Prod.fst (lps K14 0)) (Prod.snd (lps K14 0)) [(1, .int .i64 k), (7, .osl 1 1 0 (Int.toNat (↑ops.length : Int))), (27, .sl ops.length 4 (opG ops)), (28, .int .i64 ops.length), (29, .int .i64 0), (38, .undef), (39, .undef), (40, .undef), (41, .undef), (69, .undef), (70, .undef), (73, .undef), (74, .undef), (75, .undef), (76, .undef), (77, .undef), (78, .undef), (79, .undef)] [.box [.int .i64 n, .sl ops.length 4 (opG ops)], .arr (Int.toNat (↑ops.length : Int)) 1 (jS [.int .i64 0])]))))) (by kernel_rfl) ?_
 simp only [Tree.holds, zd]
 refine ⟨⟨n, ops⟩, ⟨⟨⟨⟨rfl, rfl⟩, ⟨rfl, rfl, za _ _ _⟩, trivial⟩, trivial⟩, hp⟩, ⟨_, rfl⟩, ?_⟩
 rintro _ rfl
 refine ⟨fun h => ?_, fun h => ⟨fun h2 => ?_, fun h2 => ?_⟩⟩
 ·have h : zf ⟨n, ops⟩ ≠ 0 := by simpa using h
  unfold degT at hq
  rw [if_pos h] at hq
  exact RetR.scal hq rfl (by simp [resV])
 ·have h : zf ⟨n, ops⟩ = 0 := by simpa using h
  have h2 : ¬ (0 ≤ k ∧ k < n) := by
   rintro ⟨g1, g2⟩
   rw [decide_eq_true g1, decide_eq_true g2] at h2
   cases h2
  unfold degT at hq
  rw [if_neg (fun g => g h), if_neg h2] at hq
  exact RetR.scal hq rfl (by simp [resV])
 have h : zf ⟨n, ops⟩ = 0 := by simpa using h
 have h2 : 0 ≤ k ∧ k < n := by
  by_cases g1 : 0 ≤ k
  ·by_cases g2 : k < n
   ·exact ⟨g1, g2⟩
   ·rw [decide_eq_true g1, decide_eq_false g2] at h2; cases h2
  ·rw [decide_eq_false g1] at h2; cases h2
 obtain ⟨c1, c2, c3, c4, c5⟩ := zV.1 h
 simp only at c1 c2 c3 c4 c5
 simp only [inR, lo, hi, Int.toNat_natCast]
 refine ⟨⟨by omega, by omega, by omega, by omega⟩, fun _ => ?_⟩
 unfold degT at hq
 rw [if_neg (fun g => g h), if_pos h2] at hq
 refine zb.loop (ι := {p : Nat × List Int // p.1 ≤ ops.length ∧ p.2.length = p.1 ∧ (∀ j, degB (p.2.getD j 0)) ∧ degF k (ops.drop p.1) p.2 = degF k ops []}) (fun p => SbDg k ops p.1.1) (fun p => HbDg n ops p.1.2) (fun p => ops.length - p.1.1) ⟨(0, []), Nat.zero_le _, rfl, fun j => by simp [degB], by simp⟩ 0 ?_ ?_ (by kernel_rfl)
 ·exact ⟨by simp [SbDg, opS, za], ⟨by simp [opS, za], ⟨rfl, rfl, Uc _⟩, trivial⟩, by kernel_rfl, Nat.zero_le _⟩
 rintro ⟨⟨i, l⟩, hil, hll, hlb, hlr⟩
 simp only at hil hll hlb hlr
 refine zb.run hmix Y8 [1, 7, 27, 28, 29, 38, 39, 40, 41, 69, 70, 73, 74, 75, 76, 77, 78, 79] 400 (T := .ite (decide ((↑i : Int) < ops.length)) (.side ((0 : Int) ≤ i ∧ (↑i : Int) < ops.length) (.ite (bif decide (TOp.kind (List.getD ops (Int.toNat (↑i : Int)) TOp.nil) = (1 : Int)) then decide (TOp.a (List.getD ops (Int.toNat (↑i : Int)) TOp.nil) = k) else false) (.side ((0 : Int) ≤ i ∧ (↑i : Int) < ops.length) (.ite (decide (TOp.kind (List.getD ops (Int.toNat (↑i : Int)) TOp.nil) ≤ (2 : Int))) (.side (inR .i64 ((↑i : Int) + (1 : Int))) (.leaf (.back 0 [(1, .int .i64 k), (7, .osl 1 1 0 ops.length), (27, .sl ops.length 4 (opG ops)), (28, .int .i64 ops.length), (29, .int .i64 ((↑i : Int) + (1 : Int))), (38, .undef), (39, .undef), (40, .undef), (41, .undef), (69, .undef), (70, .undef), (73, .undef), (74, .undef), (75, .undef), (76, .undef), (77, .undef), (78, .undef), (79, .undef)] [.box [.int .i64 n, .sl ops.length 4 (opG ops)], Blk.arrI .i64 ops.length fun (j : Nat) => if j = 0 + Int.toNat (↑i : Int) then (1 : Int) else dgF l j, .box [.int .u8 (TOp.kind (List.getD ops (Int.toNat (↑i : Int)) TOp.nil)), .int .i64 (TOp.a (List.getD ops (Int.toNat (↑i : Int)) TOp.nil)), .int .i64 (TOp.b (List.getD ops (Int.toNat (↑i : Int)) TOp.nil)), .str (TOp.rat (List.getD ops (Int.toNat (↑i : Int)) TOp.nil))]]))) (.side ((0 : Int) ≤ TOp.a (List.getD ops (Int.toNat (↑i : Int)) TOp.nil) ∧ TOp.a (List.getD ops (Int.toNat (↑i : Int)) TOp.nil) < (↑ops.length : Int)) (.side ((0 : Int) ≤ TOp.b (List.getD ops (Int.toNat (↑i : Int)) TOp.nil) ∧ TOp.b (List.getD ops (Int.toNat (↑i : Int)) TOp.nil) < (↑ops.length : Int)) (.ite (bif bif decide (updI (dgF l) (0 + Int.toNat (↑i : Int)) (1 : Int) (0 + Int.toNat (TOp.a (List.getD ops (Int.toNat (↑i : Int)) TOp.nil))) = (-1 : Int)) then true else decide (updI (dgF l) (0 + Int.toNat (↑i : Int)) (1 : Int) (0 + Int.toNat (TOp.b (List.getD ops (Int.toNat (↑i : Int)) TOp.nil))) = (-1 : Int)) then true else bif decide (TOp.kind (List.getD ops (Int.toNat (↑i : Int)) TOp.nil) = (6 : Int)) then decide ((0 : Int) < updI (dgF l) (0 + Int.toNat (↑i : Int)) (1 : Int) (0 + Int.toNat (TOp.b (List.getD ops (Int.toNat (↑i : Int)) TOp.nil)))) else false) (.side ((0 : Int) ≤ i ∧ (↑i : Int) < ops.length) (.side (inR .i64 ((↑i : Int) + (1 : Int))) (.leaf (.back 0 [(1, .int .i64 k), (7, .osl 1 1 0 ops.length), (27, .sl ops.length 4 (opG ops)), (28, .int .i64 ops.length), (29, .int .i64 ((↑i : Int) + (1 : Int))), (38, .undef), (39, .undef), (40, .undef), (41, .undef), (69, .undef), (70, .undef), (73, .undef), (74, .undef), (75, .undef), (76, .undef), (77, .undef), (78, .undef), (79, .undef)] [.box [.int .i64 n, .sl ops.length 4 (opG ops)], Blk.arrI .i64 ops.length fun (j : Nat) => if j = 0 + Int.toNat (↑i : Int) then (-1 : Int) else updI (dgF l) (0 + Int.toNat (↑i : Int)) (1 : Int) j, .box [.int .u8 (TOp.kind (List.getD ops (Int.toNat (↑i : Int)) TOp.nil)), .int .i64 (TOp.a (List.getD ops (Int.toNat (↑i : Int)) TOp.nil)), .int .i64 (TOp.b (List.getD ops (Int.toNat (↑i : Int)) TOp.nil)), .str (TOp.rat (List.getD ops (Int.toNat (↑i : Int)) TOp.nil))]])))) (.ite (decide (TOp.kind (List.getD ops (Int.toNat (↑i : Int)) TOp.nil) = (5 : Int))) (.side (inR .i64 (updI (dgF l) (0 + Int.toNat (↑i : Int)) (1 : Int) (0 + Int.toNat (TOp.a (List.getD ops (Int.toNat (↑i : Int)) TOp.nil))) + updI (dgF l) (0 + Int.toNat (↑i : Int)) (1 : Int) (0 + Int.toNat (TOp.b (List.getD ops (Int.toNat (↑i : Int)) TOp.nil))))) (.side ((0 : Int) ≤ i ∧ (↑i : Int) < ops.length) (.side (inR .i64 ((↑i : Int) + (1 : Int))) (.leaf (.back 0 [(1, .int .i64 k), (7, .osl 1 1 0 ops.length), (27, .sl ops.length 4 (opG ops)), (28, .int .i64 ops.length), (29, .int .i64 ((↑i : Int) + (1 : Int))), (38, .undef), (39, .undef), (40, .undef), (41, .undef), (69, .undef), (70, .undef), (73, .undef), (74, .undef), (75, .undef), (76, .undef), (77, .undef), (78, .undef), (79, .undef)] [.box [.int .i64 n, .sl ops.length 4 (opG ops)], Blk.arrI .i64 ops.length fun (j : Nat) => if j = 0 + Int.toNat (↑i : Int) then min (updI (dgF l) (0 + Int.toNat (↑i : Int)) (1 : Int) (0 + Int.toNat (TOp.a (List.getD ops (Int.toNat (↑i : Int)) TOp.nil))) + updI (dgF l) (0 + Int.toNat (↑i : Int)) (1 : Int) (0 + Int.toNat (TOp.b (List.getD ops (Int.toNat (↑i : Int)) TOp.nil)))) (1000 : Int) else updI (dgF l) (0 + Int.toNat (↑i : Int)) (1 : Int) j, .box [.int .u8 (TOp.kind (List.getD ops (Int.toNat (↑i : Int)) TOp.nil)), .int .i64 (TOp.a (List.getD ops (Int.toNat (↑i : Int)) TOp.nil)), .int .i64 (TOp.b (List.getD ops (Int.toNat (↑i : Int)) TOp.nil)), .str (TOp.rat (List.getD ops (Int.toNat (↑i : Int)) TOp.nil))]]))))) (.side ((0 : Int) ≤ i ∧ (↑i : Int) < ops.length) (.side (inR .i64 ((↑i : Int) + (1 : Int))) (.leaf (.back 0 [(1, .int .i64 k), (7, .osl 1 1 0 ops.length), (27, .sl ops.length 4 (opG ops)), (28, .int .i64 ops.length), (29, .int .i64 ((↑i : Int) + (1 : Int))), (38, .undef), (39, .undef), (40, .undef), (41, .undef), (69, .undef), (70, .undef), (73, .undef), (74, .undef), (75, .undef), (76, .undef), (77, .undef), (78, .undef), (79, .undef)] [.box [.int .i64 n, .sl ops.length 4 (opG ops)], Blk.arrI .i64 ops.length fun (j : Nat) => if j = 0 + Int.toNat (↑i : Int) then max (updI (dgF l) (0 + Int.toNat (↑i : Int)) (1 : Int) (0 + Int.toNat (TOp.a (List.getD ops (Int.toNat (↑i : Int)) TOp.nil)))) (updI (dgF l) (0 + Int.toNat (↑i : Int)) (1 : Int) (0 + Int.toNat (TOp.b (List.getD ops (Int.toNat (↑i : Int)) TOp.nil)))) else updI (dgF l) (0 + Int.toNat (↑i : Int)) (1 : Int) j, .box [.int .u8 (TOp.kind (List.getD ops (Int.toNat (↑i : Int)) TOp.nil)), .int .i64 (TOp.a (List.getD ops (Int.toNat (↑i : Int)) TOp.nil)), .int .i64 (TOp.b (List.getD ops (Int.toNat (↑i : Int)) TOp.nil)), .str (TOp.rat (List.getD ops (Int.toNat (↑i : Int)) TOp.nil))]])))))))))) (.ite (decide (TOp.kind (List.getD ops (Int.toNat (↑i : Int)) TOp.nil) ≤ (2 : Int))) (.side (inR .i64 ((↑i : Int) + (1 : Int))) (.leaf (.back 0 [(1, .int .i64 k), (7, .osl 1 1 0 ops.length), (27, .sl ops.length 4 (opG ops)), (28, .int .i64 ops.length), (29, .int .i64 ((↑i : Int) + (1 : Int))), (38, .undef), (39, .undef), (40, .undef), (41, .undef), (69, .undef), (70, .undef), (73, .undef), (74, .undef), (75, .undef), (76, .undef), (77, .undef), (78, .undef), (79, .undef)] [.box [.int .i64 n, .sl ops.length 4 (opG ops)], Blk.arrI .i64 ops.length (dgF l), .box [.int .u8 (TOp.kind (List.getD ops (Int.toNat (↑i : Int)) TOp.nil)), .int .i64 (TOp.a (List.getD ops (Int.toNat (↑i : Int)) TOp.nil)), .int .i64 (TOp.b (List.getD ops (Int.toNat (↑i : Int)) TOp.nil)), .str (TOp.rat (List.getD ops (Int.toNat (↑i : Int)) TOp.nil))]]))) (.side ((0 : Int) ≤ TOp.a (List.getD ops (Int.toNat (↑i : Int)) TOp.nil) ∧ TOp.a (List.getD ops (Int.toNat (↑i : Int)) TOp.nil) < (↑ops.length : Int)) (.side ((0 : Int) ≤ TOp.b (List.getD ops (Int.toNat (↑i : Int)) TOp.nil) ∧ TOp.b (List.getD ops (Int.toNat (↑i : Int)) TOp.nil) < (↑ops.length : Int)) (.ite (bif bif decide (dgF l (0 + Int.toNat (TOp.a (List.getD ops (Int.toNat (↑i : Int)) TOp.nil))) = (-1 : Int)) then true else decide (dgF l (0 + Int.toNat (TOp.b (List.getD ops (Int.toNat (↑i : Int)) TOp.nil))) = (-1 : Int)) then true else bif decide (TOp.kind (List.getD ops (Int.toNat (↑i : Int)) TOp.nil) = (6 : Int)) then decide ((0 : Int) < dgF l (0 + Int.toNat (TOp.b (List.getD ops (Int.toNat (↑i : Int)) TOp.nil)))) else false) (.side ((0 : Int) ≤ i ∧ (↑i : Int) < ops.length) (.side (inR .i64 ((↑i : Int) + (1 : Int))) (.leaf (.back 0 [(1, .int .i64 k), (7, .osl 1 1 0 ops.length), (27, .sl ops.length 4 (opG ops)), (28, .int .i64 ops.length), (29, .int .i64 ((↑i : Int) + (1 : Int))), (38, .undef), (39, .undef), (40, .undef), (41, .undef), (69, .undef), (70, .undef), (73, .undef), (74, .undef), (75, .undef), (76, .undef), (77, .undef), (78, .undef), (79, .undef)] [.box [.int .i64 n, .sl ops.length 4 (opG ops)], Blk.arrI .i64 ops.length fun (j : Nat) => if j = 0 + Int.toNat (↑i : Int) then (-1 : Int) else dgF l j, .box [.int .u8 (TOp.kind (List.getD ops (Int.toNat (↑i : Int)) TOp.nil)), .int .i64 (TOp.a (List.getD ops (Int.toNat (↑i : Int)) TOp.nil)), .int .i64 (TOp.b (List.getD ops (Int.toNat (↑i : Int)) TOp.nil)), .str (TOp.rat (List.getD ops (Int.toNat (↑i : Int)) TOp.nil))]])))) (.ite (decide (TOp.kind (List.getD ops (Int.toNat (↑i : Int)) TOp.nil) = (5 : Int))) (.side (inR .i64 (dgF l (0 + Int.toNat (TOp.a (List.getD ops (Int.toNat (↑i : Int)) TOp.nil))) + dgF l (0 + Int.toNat (TOp.b (List.getD ops (Int.toNat (↑i : Int)) TOp.nil))))) (.side ((0 : Int) ≤ i ∧ (↑i : Int) < ops.length) (.side (inR .i64 ((↑i : Int) + (1 : Int))) (.leaf (.back 0 [(1, .int .i64 k), (7, .osl 1 1 0 ops.length), (27, .sl ops.length 4 (opG ops)), (28, .int .i64 ops.length), (29, .int .i64 ((↑i : Int) + (1 : Int))), (38, .undef), (39, .undef), (40, .undef), (41, .undef), (69, .undef), (70, .undef), (73, .undef), (74, .undef), (75, .undef), (76, .undef), (77, .undef), (78, .undef), (79, .undef)] [.box [.int .i64 n, .sl ops.length 4 (opG ops)], Blk.arrI .i64 ops.length fun (j : Nat) => if j = 0 + Int.toNat (↑i : Int) then min (dgF l (0 + Int.toNat (TOp.a (List.getD ops (Int.toNat (↑i : Int)) TOp.nil))) + dgF l (0 + Int.toNat (TOp.b (List.getD ops (Int.toNat (↑i : Int)) TOp.nil)))) (1000 : Int) else dgF l j, .box [.int .u8 (TOp.kind (List.getD ops (Int.toNat (↑i : Int)) TOp.nil)), .int .i64 (TOp.a (List.getD ops (Int.toNat (↑i : Int)) TOp.nil)), .int .i64 (TOp.b (List.getD ops (Int.toNat (↑i : Int)) TOp.nil)), .str (TOp.rat (List.getD ops (Int.toNat (↑i : Int)) TOp.nil))]]))))) (.side ((0 : Int) ≤ i ∧ (↑i : Int) < ops.length) (.side (inR .i64 ((↑i : Int) + (1 : Int))) (.leaf (.back 0 [(1, .int .i64 k), (7, .osl 1 1 0 ops.length), (27, .sl ops.length 4 (opG ops)), (28, .int .i64 ops.length), (29, .int .i64 ((↑i : Int) + (1 : Int))), (38, .undef), (39, .undef), (40, .undef), (41, .undef), (69, .undef), (70, .undef), (73, .undef), (74, .undef), (75, .undef), (76, .undef), (77, .undef), (78, .undef), (79, .undef)] [.box [.int .i64 n, .sl ops.length 4 (opG ops)], Blk.arrI .i64 ops.length fun (j : Nat) => if j = 0 + Int.toNat (↑i : Int) then max (dgF l (0 + Int.toNat (TOp.a (List.getD ops (Int.toNat (↑i : Int)) TOp.nil)))) (dgF l (0 + Int.toNat (TOp.b (List.getD ops (Int.toNat (↑i : Int)) TOp.nil)))) else dgF l j, .box [.int .u8 (TOp.kind (List.getD ops (Int.toNat (↑i : Int)) TOp.nil)), .int .i64 (TOp.a (List.getD ops (Int.toNat (↑i : Int)) TOp.nil)), .int .i64 (TOp.b (List.getD ops (Int.toNat (↑i : Int)) TOp.nil)), .str (TOp.rat (List.getD ops (Int.toNat (↑i : Int)) TOp.nil))]]))))))))))) (.side (inR .i64 ((↑ops.length : Int) - (1 : Int))) (.side ((0 : Int) ≤ ops.length - (1 : Int) ∧ (↑ops.length : Int) - (1 : Int) < ops.length) (.leaf (.ret [.int .i64 (dgF l (0 + Int.toNat ((↑ops.length : Int) - (1 : Int)))), .int .i64 0] [.box [.int .i64 n, .sl ops.length 4 (opG ops)], Blk.arrI .i64 ops.length (dgF l)]))))) (by kernel_rfl) ?_
 simp only [Tree.holds, zd, inR, lo, hi, Int.toNat_natCast, Nat.zero_add]
 refine ⟨fun hlt => ?_, fun hge => ?_⟩
 ·have hlt : i < ops.length := by have := of_decide_eq_true hlt; omega
  have hok := vQ c5 hlt
  rw [KC hlt] at hlr
  obtain ⟨o, ho⟩ : ∃ o, ops.getD i TOp.nil = o := ⟨_, rfl⟩
  rw [ho] at hlr hok
  simp only [ho]
  simp only at hok
  have good : ∀ (v : Int) (f : Nat → Int) (bx : Blk), degS k o l = v → eqG ops.length 1 (tgI .i64 f) (tgI .i64 (dgF (l ++ [v]))) →
    (-9223372036854775808 ≤ (i : Int) + 1 ∧ (i : Int) + 1 ≤ 9223372036854775807) ∧ (-9223372036854775808 ≤ (i : Int) + 1 ∧ (i : Int) + 1 ≤ 9223372036854775807 → if True then ∃ x' : {p : Nat × List Int // p.1 ≤ ops.length ∧ p.2.length = p.1 ∧ (∀ j, degB (p.2.getD j 0)) ∧ degF k (ops.drop p.1) p.2 = degF k ops []}, ops.length - x'.1.1 < ops.length - i ∧
    LeK 0 Try.f14.ntmps [(1, .int .i64 k), (7, .osl 1 1 0 ops.length), (27, opS ops), (28, .int .i64 (ops.length : Int)), (29, .int .i64 ((i : Int) + 1)), (38, .undef), (39, .undef), (40, .undef), (41, .undef), (69, .undef), (70, .undef), (73, .undef), (74, .undef), (75, .undef), (76, .undef), (77, .undef), (78, .undef), (79, .undef)] [.box [.int .i64 n, opS ops], .arrI .i64 ops.length f, bx] (SbDg k ops x'.1.1) (HbDg n ops x'.1.2) else False) := by
   rintro v f bx rfl hg
   refine ⟨by omega, fun _ => ?_⟩
   rw [if_pos trivial]
   refine ⟨⟨(i + 1, l ++ [degS k o l]), hlt, by simp [hll], fun j => ?_, hlr⟩, by show ops.length - (i + 1) < ops.length - i; omega, by simp [SbDg, opS, za], ⟨by simp [opS, za], ⟨rfl, hg⟩, trivial⟩, by kernel_rfl, Nat.zero_le _⟩
   have hd := za2 (i := k) (o := o) hlb
   have hj := hlb j
   simp only [List.getD, List.getElem?_append] at hj ⊢
   split
   ·exact hj
   ·rename_i g
    by_cases g2 : j - l.length = 0
    ·rw [g2]; exact hd
    ·rw [List.getElem?_eq_none (by simp; omega)]; exact ⟨by decide, by decide⟩
  have ri : (0 : Int) ≤ (i : Int) ∧ (i : Int) < ops.length := by omega
  have h1 := qR hok
  have ha := hlb o.a.toNat
  have hb := hlb o.b.toNat
  refine ⟨ri, fun _ => ⟨fun k1 => ⟨ri, fun _ => ⟨fun k2 => ?_, fun k2 => ?_⟩⟩, fun k1 => ⟨fun k2 => ?_, fun k2 => ?_⟩⟩⟩
  ·have g : o.kind = 1 ∧ o.a = k := by
    by_cases g1 : o.kind = 1
    ·by_cases g2 : o.a = k
     ·exact ⟨g1, g2⟩
     ·rw [decide_eq_true g1, decide_eq_false g2] at k1; cases k1
    ·rw [decide_eq_false g1] at k1; cases k1
   exact good 1 (updI (dgF l) i 1) _ (by unfold degS; rw [if_pos g.1, if_pos g.2]) (Qu hll)
  ·exfalso
   have g : o.kind = 1 := by
    by_cases g1 : o.kind = 1
    ·exact g1
    ·rw [decide_eq_false g1] at k1; cases k1
   have := of_decide_eq_false k2
   omega
  ·have k2 := of_decide_eq_true k2
   refine good 0 (dgF l) _ ?_ (YQ hll)
   unfold degS
   by_cases g1 : o.kind = 1
   ·rw [if_pos g1, if_neg]
    intro g2
    rw [decide_eq_true g1, decide_eq_true g2] at k1; cases k1
   ·rw [if_neg g1, if_pos (by omega)]
  ·have k2 := of_decide_eq_false k2
   have e0 : degS k o l = if dgF l o.a.toNat < 0 ∨ dgF l o.b.toNat < 0 then -1 else if o.kind = 5 then min (dgF l o.a.toNat + dgF l o.b.toNat) 1000 else if o.kind = 6 then (if 0 < dgF l o.b.toNat then -1 else dgF l o.a.toNat) else max (dgF l o.a.toNat) (dgF l o.b.toNat) := by
    unfold degS
    rw [if_neg (by omega), if_neg (by omega)]; rfl
   replace ha : degB (dgF l o.a.toNat) := ha
   replace hb : degB (dgF l o.b.toNat) := hb
   generalize dgF l o.a.toNat = x at *
   generalize dgF l o.b.toNat = y at *
   obtain ⟨ha1, ha2⟩ := ha
   obtain ⟨hb1, hb2⟩ := hb
   refine ⟨by omega, fun _ => ⟨by omega, fun _ => ⟨fun k3 => ⟨ri, fun _ => ?_⟩, fun k3 => ⟨fun k4 => ⟨by omega, fun _ => ⟨ri, fun _ => ?_⟩⟩, fun k4 => ⟨ri, fun _ => ?_⟩⟩⟩⟩⟩
   ·refine good (-1) (updI (dgF l) i (-1)) _ ?_ (Qu hll)
    rw [e0]
    by_cases g1 : x = -1
    ·rw [if_pos (by omega)]
    ·by_cases g2 : y = -1
     ·rw [if_pos (by omega)]
     ·rw [decide_eq_false g1, decide_eq_false g2] at k3
      by_cases g3 : o.kind = 6
      ·by_cases g4 : 0 < y
       ·rw [if_neg (by omega), if_neg (by omega), if_pos g3, if_pos g4]
       ·rw [decide_eq_true g3, decide_eq_false g4] at k3; cases k3
      ·rw [decide_eq_false g3] at k3; cases k3
   all_goals
    have k5 : ¬ (x < 0 ∨ y < 0) ∧ (o.kind = 6 → ¬ 0 < y) := by
     refine ⟨?_, fun g3 g4 => ?_⟩
     ·rintro (g | g)
      ·rw [decide_eq_true (show x = -1 by omega)] at k3; cases k3
      ·rw [decide_eq_true (show y = -1 by omega)] at k3
       by_cases g1 : x = -1
       ·rw [decide_eq_true g1] at k3; cases k3
       ·rw [decide_eq_false g1] at k3; cases k3
     ·rw [decide_eq_true g3, decide_eq_true g4] at k3
      by_cases g1 : x = -1
      ·rw [decide_eq_true g1] at k3; cases k3
      ·by_cases g2 : y = -1
       ·rw [decide_eq_false g1, decide_eq_true g2] at k3; cases k3
       ·rw [decide_eq_false g1, decide_eq_false g2] at k3; cases k3
   ·refine good _ (updI (dgF l) i _) _ ?_ (Qu hll)
    rw [e0, if_neg k5.1, if_pos (of_decide_eq_true k4)]
   ·refine good _ (updI (dgF l) i _) _ ?_ (Qu hll)
    rw [e0, if_neg k5.1, if_neg (of_decide_eq_false k4)]
    by_cases g6 : o.kind = 6
    ·rw [if_pos g6, if_neg (k5.2 g6)]
     have := k5.2 g6
     omega
    ·rw [if_neg g6]
 ·have hge : i = ops.length := by have := of_decide_eq_false hge; omega
  subst hge
  rw [Xd] at hlr
  refine ⟨by omega, fun _ => ⟨by omega, fun _ => ?_⟩⟩
  simp only at hq
  rw [← hlr] at hq
  have e : ((ops.length : Int) - 1).toNat = ops.length - 1 := by omega
  rw [e]
  exact RetR.scal hq rfl (by simp [resV, dgF])
end Go.Proofs.Try
end

/- Differences: one step of them, the value at shifted inputs. -/
section
set_option maxRecDepth 100000
open Go Go.Sx Go.Proofs Go.Nov
namespace Go.Proofs.Try
attribute [local simp] eqKV eqA eqA0 eqH eqB eqL eqL0
noncomputable def K42 : List Go.Sx.Item := [.code (Try.f42.body.getD .skip)]
noncomputable def GD1 : Nat → Option Ctr := fun f => if f = 23 then some (VT) else if f = 24 then some (JH) else if f = 27 then some (X0) else if f = 62 then some (Yv) else none
theorem uT : ∀ g c, GD1 g = some c → ze Try.prog g c := okIf QA (okIf yJ (okIf Vx (okIf Kd (zz))))
noncomputable def ddoI : Ctr := inlC Try.prog GD1 100 Try.f41
theorem za3 : ze Try.prog 41 ddoI := vI hmix uT rfl rfl
def HDf (t : Tp) (inp : List (List UInt8)) (e : Int) : Blk := .box [.int .i64 t.n, opS t.ops, ratS inp, .int .i64 e]
def datC : Ctr := ctrT false false (fun p : Tp × List (List UInt8) × Int × List UInt8 × List Int => [.ptr 0 0, .str p.2.2.2.1, .osl 1 1 0 p.2.2.2.2.length])
 (fun p => [HDf p.1 p.2.1 p.2.2.1, .arrI .i64 p.2.2.2.2.length (dgF p.2.2.2.2)])
 (fun p => zf p.1 = 0 ∧ (p.2.1.length : Int) = p.1.n ∧ allQ p.2.1 ∧ errR p.2.2.2.1 = 0 ∧ (∀ i ∈ p.2.2.2.2, 0 ≤ i ∧ i < p.1.n) ∧ p.2.2.2.2.length < 2 ^ 40)
 (fun p r => r = stpA p.2.2.1 (atT p.1 p.2.1 p.2.2.2.1 p.2.2.2.2)) (fun p (r : List UInt8 × Int) => (.str r.1, [HDf p.1 p.2.1 r.2, .arrI .i64 p.2.2.2.2.length (dgF p.2.2.2.2)]))
noncomputable def GD2 : Nat → Option Ctr := fun f => if f = 41 then some (ddoI) else if f = 31 then some (J3) else if f = 34 then some (Ve) else none
theorem Y0 : ∀ g c, GD2 g = some c → ze Try.prog g c := okIf za3 (okIf VC (okIf J0 (zz)))
theorem za4 {t : Tp} {x : List (List UInt8)} {h : List UInt8} : atT t x h [] = qK (runF x t.ops []) := rfl
theorem Xc {t : Tp} {x : List (List UInt8)} {h : List UInt8} {i : Int} {l : List Int} (g : (addR (x.getD i.toNat []) h).2 = 0) : atT t x h (i :: l) = atT t (x.set i.toNat (addR (x.getD i.toNat []) h).1) h l := by
 have e : shL h (i :: l) x = shL h l (x.set i.toNat (addR (x.getD i.toNat []) h).1) := if_neg (fun k => k g)
 unfold atT
 rw [e]
theorem XS {t : Tp} {x : List (List UInt8)} {h : List UInt8} {i : Int} {l : List Int} (g : (addR (x.getD i.toNat []) h).2 ≠ 0) : atT t x h (i :: l) = ([], (addR (x.getD i.toNat []) h).2) := by
 have e : shL h (i :: l) x = ([], (addR (x.getD i.toNat []) h).2) := if_pos g
 unfold atT
 rw [e, if_pos g]
theorem Xk {x : List (List UInt8)} {v : List UInt8} {N i : Nat} (h : i < x.length) : eqG N 1 (tgS fun j => if j = i then v else rtF x j) (tgS (rtF (x.set i v))) := by
 intro j o _ _
 simp only [tgS, rtF]
 by_cases hji : j = i
 ·subst hji; rw [if_pos rfl]; simp [List.getD, h]
 ·rw [if_neg hji]; congr 1; simp only [List.getD]; rw [List.getElem?_set_ne (fun g => hji g.symm)]
def StAt (h : List UInt8) (N m i : Nat) : KV := [(0, .ptr 0 0), (1, .str h), (6, .str []), (7, .osl 2 1 0 N), (15, .osl 1 1 0 m), (16, .int .i64 (m : Int)), (17, .int .i64 (i : Int))]
def HtAt (t : Tp) (inp : List (List UInt8)) (pl : List Int) (e : Int) (N : Nat) (x : List (List UInt8)) : Heap := [HDf t inp e, .arrI .i64 pl.length (dgF pl), .arrS N (rtF x)]
theorem Yw : ze Try.prog 42 datC := by
 refine jw (fn := Try.f42) (c := Try.f42.body.getD .skip) rfl rfl rfl (fun h => by cases h) fun p hp O w0 σ0 Q hl0 hq => ?_
 obtain ⟨⟨n, ops⟩, inp, e, h, pl⟩ := p
 replace hq := hq _ rfl
 obtain ⟨h1, h2, h3, h4, h5, h6⟩ := hp
 simp only at h1 h2 h3 h4 h5 h6 hq
 refine zb.run hmix Y0 [0, 1, 6, 7, 15, 16, 17] 400 (T := .side (inp.length * 16 ≤ 140737488355328) (.leaf (.loop (Prod.fst (lps K42 0)) (Prod.snd (lps K42 0)) [(0, .ptr 0 0), (1, .str h), (6, .str (Array.toList #[])), (7, .osl 2 1 0 inp.length), (15, .osl 1 1 0 pl.length), (16, .int .i64 pl.length), (17, .int .i64 0)] [.box [.int .i64 n, .sl ops.length 4 (opG ops), .sl inp.length 1 (ratG inp), .int .i64 e], Blk.arrI .i64 pl.length (dgF pl), .arr inp.length 1 (ratG inp)]))) (by kernel_rfl) ?_
 simp only [Tree.holds, zd]
 obtain ⟨c1, c2, c3, c4, c5⟩ := zV.1 h1
 simp only at c1 c2 c3 c4 c5
 refine ⟨by omega, fun _ => ?_⟩
 generalize hF : stpA e (atT ⟨n, ops⟩ inp h pl) = F at hq
 refine zb.loop (ι := {p : Nat × Int × List (List UInt8) // p.1 ≤ pl.length ∧ p.2.2.length = inp.length ∧ (p.2.1 = 0 → allQ p.2.2 ∧ atT ⟨n, ops⟩ p.2.2 h (pl.drop p.1) = F) ∧ (p.2.1 ≠ 0 → F = ([], p.2.1))}) (fun p => StAt h inp.length pl.length p.1.1) (fun p => HtAt ⟨n, ops⟩ inp pl p.1.2.1 inp.length p.1.2.2) (fun p => pl.length - p.1.1) ⟨(0, e, inp), Nat.zero_le _, rfl, fun g => ⟨h3, ?_⟩, fun g => ?_⟩ 0 ?_ ?_ (by kernel_rfl)
 ·rw [← hF]; unfold stpA; rw [if_neg (fun k => k g)]; rfl
 ·rw [← hF]; unfold stpA; rw [if_pos g]
 ·exact ⟨by simp [StAt], by simp [HtAt, HDf, opS, ratS, za]; exact fun _ _ _ _ => rfl, by kernel_rfl, by show 2 ≤ 3; decide⟩
 rintro ⟨⟨i, e', x⟩, hil, hxl, hx0, hx1⟩
 simp only at hil hxl hx0 hx1
 refine zb.run hmix Y0 [0, 1, 6, 7, 15, 16, 17] 400 (T := .ite (decide ((↑i : Int) < pl.length)) (.side ((0 : Int) ≤ i ∧ (↑i : Int) < pl.length) (.side ((0 : Int) ≤ dgF pl (0 + Int.toNat (↑i : Int)) ∧ dgF pl (0 + Int.toNat (↑i : Int)) < (↑inp.length : Int)) (.ite (decide (e' = (0 : Int))) (.ex (fun (x_1 : List UInt8 × List UInt8) => eqL [AV.str (rtF x (0 + Int.toNat (dgF pl (0 + Int.toNat (↑i : Int))))), AV.str h] [AV.str x_1.1, AV.str x_1.2] ∧ x_1.1.length < 2305843009213693952 ∧ x_1.2.length < 2305843009213693952) fun n_1 => .all (fun (r : List UInt8 × Int) => r = addR n_1.1 n_1.2) fun n_2 => .side ((0 : Int) ≤ dgF pl (0 + Int.toNat (↑i : Int)) ∧ dgF pl (0 + Int.toNat (↑i : Int)) < (↑inp.length : Int)) (.side (inR .i64 ((↑i : Int) + (1 : Int))) (.leaf (.back 0 [(0, .ptr 0 0), (1, .str h), (6, .str []), (7, .osl 2 1 0 inp.length), (15, .osl 1 1 0 pl.length), (16, .int .i64 pl.length), (17, .int .i64 ((↑i : Int) + (1 : Int)))] [.box [.int .i64 n, .sl ops.length 4 (opG ops), .sl inp.length 1 (ratG inp), .int .i64 n_2.2], Blk.arrI .i64 pl.length (dgF pl), Blk.arrS inp.length fun (j : Nat) => if j = 0 + Int.toNat (dgF pl (0 + Int.toNat (↑i : Int))) then n_2.1 else rtF x j])))) (.side ((0 : Int) ≤ dgF pl (0 + Int.toNat (↑i : Int)) ∧ dgF pl (0 + Int.toNat (↑i : Int)) < (↑inp.length : Int)) (.side (inR .i64 ((↑i : Int) + (1 : Int))) (.leaf (.back 0 [(0, .ptr 0 0), (1, .str h), (6, .str []), (7, .osl 2 1 0 inp.length), (15, .osl 1 1 0 pl.length), (16, .int .i64 pl.length), (17, .int .i64 ((↑i : Int) + (1 : Int)))] [.box [.int .i64 n, .sl ops.length 4 (opG ops), .sl inp.length 1 (ratG inp), .int .i64 e'], Blk.arrI .i64 pl.length (dgF pl), Blk.arrS inp.length fun (j : Nat) => if j = 0 + Int.toNat (dgF pl (0 + Int.toNat (↑i : Int))) then Array.toList #[] else rtF x j]))))))) (.ite (decide (e' = (0 : Int))) (.ex (fun (x_1 : Tp × List (List UInt8)) => eqL [AV.agg [AV.int .i64 n, AV.sl ops.length 4 (opG ops)], AV.sl inp.length 1 (zh (fun (j x_2 : Nat) => AV.str (rtF x j)) 0)] [AV.agg [AV.int .i64 (Tp.n x_1.1), AV.sl (List.length (Tp.ops x_1.1)) 4 (opG (Tp.ops x_1.1))], AV.sl x_1.2.length 1 (ratG x_1.2)] ∧ zf x_1.1 = 0 ∧ (↑x_1.2.length : Int) = Tp.n x_1.1 ∧ allQ x_1.2) fun n_1 => .all (fun (r : List (List UInt8) × Int) => r = runF n_1.2 (Tp.ops n_1.1) []) fun n_2 => .ite (!decide (n_2.2 = 0)) (.leaf (.ret [.str (Array.toList #[])] [.box [.int .i64 n, .sl ops.length 4 (opG ops), .sl inp.length 1 (ratG inp), .int .i64 n_2.2], Blk.arrI .i64 pl.length (dgF pl), Blk.arrS inp.length (rtF x), .arr n_2.1.length 1 (ratG n_2.1)])) (.side (inR .i64 ((↑n_2.1.length : Int) - (1 : Int))) (.side ((0 : Int) ≤ n_2.1.length - (1 : Int) ∧ (↑n_2.1.length : Int) - (1 : Int) < n_2.1.length) (.leaf (.ret [.str (List.getD n_2.1 (0 + Int.toNat ((↑n_2.1.length : Int) - (1 : Int))) [])] [.box [.int .i64 n, .sl ops.length 4 (opG ops), .sl inp.length 1 (ratG inp), .int .i64 0], Blk.arrI .i64 pl.length (dgF pl), Blk.arrS inp.length (rtF x), .arr n_2.1.length 1 (ratG n_2.1)]))))) (.leaf (.ret [.str []] [.box [.int .i64 n, .sl ops.length 4 (opG ops), .sl inp.length 1 (ratG inp), .int .i64 e'], Blk.arrI .i64 pl.length (dgF pl), Blk.arrS inp.length (rtF x)])))) (by kernel_rfl) ?_
 simp only [Tree.holds, zd, inR, lo, hi, Int.toNat_natCast, Nat.zero_add]
 have fin : ∀ (r : List UInt8 × Int) (b : Heap), r = F → RetR datC 2 Q [.str r.1] ([.box [.int .i64 n, opS ops, ratS inp, .int .i64 r.2], .arrI .i64 pl.length (dgF pl)] ++ b) := by
  intro r b hr
  rw [← hr] at hq
  exact RetR.keep [0, 1] rfl (by simp) (by show ∀ j, j < 2 → _; decide) rfl hq (by simp [resV, exp2, exp1, exp0, ren0, eqA2, eqL1]) (by simp [expH, expB, exp1, exp0, ren0, HDf, opS, ratS, za]) rfl
 refine ⟨fun hlt => ?_, fun hge => ?_⟩
 ·have hlt : i < pl.length := by have := of_decide_eq_true hlt; omega
  have hpl : 0 ≤ dgF pl i ∧ dgF pl i < n := h5 _ (by simp [dgF, List.getD, hlt])
  have hd : pl.drop i = dgF pl i :: pl.drop (i + 1) := by rw [List.drop_eq_getElem_cons hlt]; simp [dgF, List.getD, hlt]
  refine ⟨by omega, fun _ => ⟨by omega, fun _ => ⟨fun he => ?_, fun he => ?_⟩⟩⟩
  ·have he := of_decide_eq_true he
   obtain ⟨hxq, hxF⟩ := hx0 he
   have hq1 := Un hxq (dgF pl i).toNat
   have hq2 := qL h4
   refine ⟨(rtF x (dgF pl i).toNat, h), ⟨by simp, by show (x.getD _ []).length < _; omega, by show h.length < _; omega⟩, ⟨_, rfl⟩, ?_⟩
   intro r hr
   replace hr : r = addR (x.getD (dgF pl i).toNat []) h := hr
   refine ⟨by omega, fun _ => ⟨by omega, fun _ => ?_⟩⟩
   rw [if_pos trivial]
   rw [hd] at hxF
   refine ⟨⟨(i + 1, r.2, x.set (dgF pl i).toNat r.1), hlt, by simp [hxl], fun g => ?_, fun g => ?_⟩, by show pl.length - (i + 1) < pl.length - i; omega, by simp [StAt], ?_, by kernel_rfl, by show 2 ≤ 3; decide⟩
   ·simp only at g
    rw [hr] at g
    rw [Xc g, ← hr] at hxF
    refine ⟨yP hxq ?_ _, hxF⟩
    rw [hr]
    exact (xr (qM hxq (by omega)) h4 g).1
   ·simp only at g
    rw [hr] at g
    rw [XS g, ← hr] at hxF
    exact hxF.symm
   ·simp [HtAt, HDf, opS, ratS, za]
    exact Xk (by omega)
  ·have he := of_decide_eq_false he
   have hF1 := hx1 he
   refine ⟨by omega, fun _ => ⟨by omega, fun _ => ?_⟩⟩
   rw [if_pos trivial]
   refine ⟨⟨(i + 1, e', x.set (dgF pl i).toNat []), hlt, by simp [hxl], fun g => absurd g he, fun _ => hF1⟩, by show pl.length - (i + 1) < pl.length - i; omega, by simp [StAt], ?_, by kernel_rfl, by show 2 ≤ 3; decide⟩
   simp [HtAt, HDf, opS, ratS, za]
   exact Xk (by omega)
 ·have hge : i = pl.length := by have := of_decide_eq_false hge; omega
  subst hge
  refine ⟨fun he => ?_, fun he => ?_⟩
  ·have he := of_decide_eq_true he
   obtain ⟨hxq, hxF⟩ := hx0 he
   rw [List.drop_length, za4] at hxF
   refine ⟨(⟨n, ops⟩, x), ⟨⟨⟨⟨rfl, rfl⟩, ⟨rfl, rfl, za _ _ _⟩, trivial⟩, ⟨hxl.symm, rfl, fun j o _ _ => by simp [zh, rtF, ratG]⟩, trivial⟩, h1, by show (x.length : Int) = n; omega, hxq⟩, ⟨_, rfl⟩, ?_⟩
   intro r hr
   replace hr : r = runF x ops [] := hr
   rw [← hr] at hxF
   unfold qK at hxF
   refine ⟨fun g => ?_, fun g => ?_⟩
   ·have g : r.2 ≠ 0 := by simpa using g
    rw [if_pos g] at hxF
    exact fin ([], r.2) _ hxF
   ·have g : r.2 = 0 := by simpa using g
    rw [if_neg (fun k => k g)] at hxF
    have hl : r.1.length = ops.length := by
     obtain ⟨_, _, a3⟩ := xR (n := n) hxq (by omega) ops [] _ (fun y hy => absurd hy (by simp)) (jg c5 ops 0 (List.drop_zero)) (show runF x ops [] = (r.1, 0) by rw [← hr, ← g])
     simpa using a3
    refine ⟨by omega, fun _ => ⟨by omega, fun _ => ?_⟩⟩
    have e2 : ((r.1.length : Int) - 1).toNat = r.1.length - 1 := by omega
    rw [e2]
    exact fin (_, 0) _ hxF
  ·have he := of_decide_eq_false he
   exact fin ([], e') _ (hx1 he).symm
def opN (k : Int) : Nat := if k = 3 then 23 else if k = 4 then 24 else if k = 5 then 27 else 62
def ddoC : Ctr := ctrT false false (fun p : Tp × List (List UInt8) × Int × Int × List UInt8 × List UInt8 => [.ptr 0 0, .fn (opN p.2.2.2.1) [] [], .str p.2.2.2.2.1, .str p.2.2.2.2.2])
 (fun p => [HDf p.1 p.2.1 p.2.2.1]) (fun p => (p.2.2.2.1 = 3 ∨ p.2.2.2.1 = 4 ∨ p.2.2.2.1 = 5 ∨ p.2.2.2.1 = 6) ∧ p.2.2.2.2.1.length < 2 ^ 61 ∧ p.2.2.2.2.2.length < 2 ^ 61)
 (fun p r => r = stp p.2.2.1 (arR p.2.2.2.1) p.2.2.2.2.1 p.2.2.2.2.2) (fun p (r : List UInt8 × Int) => (.str r.1, [HDf p.1 p.2.1 r.2]))
theorem yH : ze Try.prog 41 ddoC := by
 refine jw (fn := Try.f41) (c := Try.f41.body.getD .skip) rfl rfl rfl (fun h => by cases h) fun p hp O w0 σ0 Q hl0 hq => ?_
 obtain ⟨⟨n, ops⟩, inp, e, k, a, b⟩ := p
 replace hq := hq _ rfl
 obtain ⟨h1, h2, h3⟩ := hp
 simp only at h1 h2 h3 hq
 have fin : ∀ (r : List UInt8 × Int) (b' : Heap), stp e (arR k) a b = r → RetR ddoC 1 Q [.str r.1] ([.box [.int .i64 n, opS ops, ratS inp, .int .i64 r.2]] ++ b') := by
  intro r b' hr
  rw [hr] at hq
  exact RetR.keep [0] rfl (by simp) (by show ∀ j, j < 1 → _; decide) rfl hq (by simp [resV, exp2, exp1, exp0, ren0, eqA2, eqL1]) (by simp [expH, expB, exp1, exp0, ren0, HDf, opS, ratS, za]) rfl
 have no : ∀ b' : Heap, decide (e = 0) = false → RetR ddoC 1 Q [.str []] ([.box [.int .i64 n, opS ops, ratS inp, .int .i64 e]] ++ b') := fun b' g => fin ([], e) b' (by unfold stp; rw [if_pos (of_decide_eq_false g)])
 have yes : ∀ (b' : Heap) (r : List UInt8 × Int), decide (e = 0) = true → r = arR k a b → RetR ddoC 1 Q [.str r.1] ([.box [.int .i64 n, opS ops, ratS inp, .int .i64 r.2]] ++ b') := fun b' r g hr => fin r b' (by unfold stp; rw [if_neg (fun q => q (of_decide_eq_true g)), hr])
 rcases h1 with rfl | rfl | rfl | rfl
 ·refine zb.run hmix uT [] 400 (T := .ite (decide (e = 0)) (.ex (fun (x : List UInt8 × List UInt8) => eqL [AV.str a, AV.str b] [AV.str x.1, AV.str x.2] ∧ x.1.length < 2305843009213693952 ∧ x.2.length < 2305843009213693952) fun n_1 => .all (fun (r : List UInt8 × Int) => r = addR n_1.1 n_1.2) fun n_2 => .leaf (.ret [.str n_2.1] [.box [.int .i64 n, .sl ops.length 4 (opG ops), .sl inp.length 1 (ratG inp), .int .i64 n_2.2]])) (.leaf (.ret [.str (Array.toList #[])] [.box [.int .i64 n, .sl ops.length 4 (opG ops), .sl inp.length 1 (ratG inp), .int .i64 e]]))) (by kernel_rfl) ?_
  simp only [Tree.holds, zd]
  exact ⟨fun g => ⟨(a, b), ⟨by simp, h2, h3⟩, ⟨_, rfl⟩, fun r hr => yes [] r g hr⟩, fun g => no [] g⟩
 ·refine zb.run hmix uT [] 400 (T := .ite (decide (e = 0)) (.ex (fun (x : List UInt8 × List UInt8) => eqL [AV.str a, AV.str b] [AV.str x.1, AV.str x.2] ∧ x.1.length < 2305843009213693952 ∧ x.2.length < 2305843009213693952) fun n_1 => .all (fun (r : List UInt8 × Int) => r = subR n_1.1 n_1.2) fun n_2 => .leaf (.ret [.str n_2.1] [.box [.int .i64 n, .sl ops.length 4 (opG ops), .sl inp.length 1 (ratG inp), .int .i64 n_2.2]])) (.leaf (.ret [.str (Array.toList #[])] [.box [.int .i64 n, .sl ops.length 4 (opG ops), .sl inp.length 1 (ratG inp), .int .i64 e]]))) (by kernel_rfl) ?_
  simp only [Tree.holds, zd]
  exact ⟨fun g => ⟨(a, b), ⟨by simp, h2, h3⟩, ⟨_, rfl⟩, fun r hr => yes [] r g hr⟩, fun g => no [] g⟩
 ·refine zb.run hmix uT [] 400 (T := .ite (decide (e = 0)) (.ex (fun (x : List UInt8 × List UInt8) => eqL [AV.str a, AV.str b] [AV.str x.1, AV.str x.2] ∧ x.1.length < 2305843009213693952 ∧ x.2.length < 2305843009213693952) fun n_1 => .all (fun (r : List UInt8 × Int) => r = mulR n_1.1 n_1.2) fun n_2 => .leaf (.ret [.str n_2.1] [.box [.int .i64 n, .sl ops.length 4 (opG ops), .sl inp.length 1 (ratG inp), .int .i64 n_2.2]])) (.leaf (.ret [.str (Array.toList #[])] [.box [.int .i64 n, .sl ops.length 4 (opG ops), .sl inp.length 1 (ratG inp), .int .i64 e]]))) (by kernel_rfl) ?_
  simp only [Tree.holds, zd]
  exact ⟨fun g => ⟨(a, b), ⟨by simp, h2, h3⟩, ⟨_, rfl⟩, fun r hr => yes [] r g hr⟩, fun g => no [] g⟩
 ·refine zb.run hmix uT [] 400 (T := .ite (decide (e = 0)) (.ex (fun (x : List UInt8 × List UInt8) => eqL [AV.str a, AV.str b] [AV.str x.1, AV.str x.2] ∧ x.1.length < 2305843009213693952 ∧ x.2.length < 2305843009213693952) fun n_1 => .all (fun (r : List UInt8 × Int) => r = divR n_1.1 n_1.2) fun n_2 => .leaf (.ret [.str n_2.1] [.box [.int .i64 n, .sl ops.length 4 (opG ops), .sl inp.length 1 (ratG inp), .int .i64 n_2.2]])) (.leaf (.ret [.str (Array.toList #[])] [.box [.int .i64 n, .sl ops.length 4 (opG ops), .sl inp.length 1 (ratG inp), .int .i64 e]]))) (by kernel_rfl) ?_
  simp only [Tree.holds, zd]
  exact ⟨fun g => ⟨(a, b), ⟨by simp, h2, h3⟩, ⟨_, rfl⟩, fun r hr => yes [] r g hr⟩, fun g => no [] g⟩
end Go.Proofs.Try
end

/- Differences: Bump. -/
section
set_option maxRecDepth 100000
open Go Go.Sx Go.Proofs Go.Nov
namespace Go.Proofs.Try
attribute [local simp] eqKV eqA eqA0 eqH eqB eqL eqL0
noncomputable def K39 : List Go.Sx.Item := [.code (Try.f39.body.getD .skip)]
theorem arR4 : arR 4 = subR := by funext a b; simp [arR]
theorem arR3 : arR 3 = addR := by funext a b; simp [arR]
theorem arR5 : arR 5 = mulR := by funext a b; simp [arR]
theorem arR6 : arR 6 = divR := by funext a b; simp [arR]
def qG (r : List UInt8 × Int) : Prop := (r.2 = 0 → errR r.1 = 0) ∧ (r.2 ≠ 0 → r.1 = [])
theorem qi {r : List UInt8 × Int} (h : qG r) : r.1.length ≤ 2003 := by
 by_cases g : r.2 = 0
 ·exact qL (h.1 g)
 ·rw [h.2 g]; simp
theorem jt {r : List UInt8 × Int} (h : qG r) (g : r.2 = 0) : errR r.1 = 0 := h.1 g
theorem wm {t : Tp} {inp : List (List UInt8)} {h : List UInt8} {l : List Int} (hh : errR h = 0) (p1 : zf t = 0) (p2 : (inp.length : Int) = t.n) (p3 : allQ inp) (hl : ∀ i ∈ l, 0 ≤ i ∧ i < t.n) : qG (atT t inp h l) := by
 refine ⟨fun g => (yi hh p1 p2 p3 hl g).1, fun g => ?_⟩
 unfold atT qK at g ⊢
 split
 ·rfl
 ·rename_i q
  rw [if_neg q] at g
  split
  ·rfl
  ·rename_i q2; rw [if_neg q2] at g; exact absurd rfl g
theorem qS {e k : Int} {x y : List UInt8} (h : e = 0 → errR x = 0 ∧ errR y = 0) : qG (stp e (arR k) x y) := by
 unfold stp
 by_cases g : e = 0
 ·rw [if_neg (fun q => q g)]
  obtain ⟨a, b⟩ := h g
  exact ⟨fun q => WJ a b q, fun q => VU a b q⟩
 ·rw [if_pos g]
  exact ⟨fun q => absurd q g, fun _ => rfl⟩
theorem ZU {i : Int} : eqG 1 1 (zc 1 [.int .i64 i]) (tgI .i64 (dgF [i])) := by
 intro j o hj ho
 obtain rfl : j = 0 := by omega
 obtain rfl : o = 0 := by omega
 rfl
noncomputable def GD3 : Nat → Option Ctr := fun f => if f = 41 then some (ddoC) else if f = 42 then some (datC) else none
theorem zae : ∀ g c, GD3 g = some c → ze Try.prog g c := okIf yH (okIf Yw (zz))
noncomputable def Up : Ctr := inlC Try.prog GD3 200 Try.f40
theorem YX : ze Try.prog 40 Up := vI hmix zae rfl rfl
def VJ : Ctr := ctrT false false (fun p : Tp × List (List UInt8) × List UInt8 × Int => [p.1.av, ratS p.2.1, .str p.2.2.1, .osl 0 1 0 1, .fn 40 [] [.ptr 1 0, .ptr 2 0]])
 (fun p => [.arrI .i64 1 (dgF [p.2.2.2]), .box [.str p.2.2.1], .box [.int .i64 p.2.2.2]])
 (fun p => zy p.1 ∧ zN p.2.1 ∧ p.2.2.1.length < 2 ^ 49) (fun p r => r = z3 p.1 p.2.1 p.2.2.2 p.2.2.1)
 (fun p (r : List UInt8 × Int) => (.tup [.str r.1, .int .i64 r.2], [.arrI .i64 1 (dgF [p.2.2.2]), .box [.str p.2.2.1], .box [.int .i64 p.2.2.2]]))
noncomputable def GD4 : Nat → Option Ctr := fun f => if f = 12 then some (KT) else if f = 35 then some (bwI) else if f = 30 then some (ky) else if f = 40 then some (Up) else if f = 41 then some (ddoC) else none
theorem Xr : ∀ g c, GD4 g = some c → ze Try.prog g c := okIf Kf (okIf VG (okIf wW (okIf YX (okIf yH (zz)))))
def StDi (inp : List (List UInt8)) (h v : List UInt8) (k : Nat) : KV := [(1, ratS inp), (2, .str h), (4, .fn 40 [] [.ptr 1 0, .ptr 2 0]), (5, .ptr 3 0), (12, .str v), (30, .osl 0 1 0 1), (31, .int .i64 1), (32, .int .i64 (k : Int))]
def HtDi (n : Int) (ops : List TOp) (h : List UInt8) (i : Int) : Heap := [.arrI .i64 1 (dgF [i]), .box [.str h], .box [.int .i64 i], .box [.int .i64 n, opS ops]]
theorem YN : ze Try.prog 39 VJ := by
 refine jw (fn := Try.f39) (c := Try.f39.body.getD .skip) rfl rfl rfl (fun h => by cases h) fun p hp O w0 σ0 Q hl0 hq => ?_
 obtain ⟨⟨n, ops⟩, inp, h, i⟩ := p
 replace hq := hq _ rfl
 obtain ⟨h1, h2, h3⟩ := hp
 simp only at h1 h2 h3 hq
 refine zb.run hmix Xr [1, 2, 4, 5, 12, 30, 31, 32] 400 (T := .ex (fun (x : Tp × List (List UInt8)) => eqL [AV.agg [AV.int .i64 n, AV.sl ops.length 4 (opG ops)], AV.sl inp.length 1 (ratG inp)] [AV.agg [AV.int .i64 (Tp.n x.1), AV.sl (List.length (Tp.ops x.1)) 4 (opG (Tp.ops x.1))], AV.sl x.2.length 1 (ratG x.2)] ∧ zy x.1 ∧ zN x.2) fun n_1 => .all (fun (r : List UInt8 × Int) => r = zw n_1.1 n_1.2) fun n_2 => .ite (!decide (n_2.2 = 0)) (.leaf (.ret [.str (Array.toList #[]), .int .i64 n_2.2] [Blk.arrI .i64 1 (dgF [i]), .box [.str h], .box [.int .i64 i], .box [.int .i64 n, .sl ops.length 4 (opG ops)]])) (.leaf (.loop (Prod.fst (lps K39 0)) (Prod.snd (lps K39 0)) [(1, .sl inp.length 1 (ratG inp)), (2, .str h), (4, .fn 40 [] [.ptr 1 0, .ptr 2 0]), (5, .ptr 3 0), (12, .str n_2.1), (30, .osl 0 1 0 1), (31, .int .i64 1), (32, .int .i64 0)] [Blk.arrI .i64 1 (dgF [i]), .box [.str h], .box [.int .i64 i], .box [.int .i64 n, .sl ops.length 4 (opG ops)]]))) (by kernel_rfl) ?_
 simp only [Tree.holds, zd]
 generalize hF : z3 ⟨n, ops⟩ inp i h = F at hq
 have fin : ∀ (r : List UInt8 × Int) (b : Heap), F = r → RetR VJ 3 Q [.str r.1, .int .i64 r.2] ([.arrI .i64 1 (dgF [i]), .box [.str h], .box [.int .i64 i]] ++ b) := by
  intro r b hr
  rw [hr] at hq
  exact RetR.keep [0, 1, 2] rfl (by simp) (by show ∀ j, j < 3 → _; decide) rfl hq (by simp [resV, exp2, exp1, exp0, ren0, eqA2, eqL1]) (by simp [expH, expB, exp1, exp0, ren0, za]) rfl
 have bad : ∀ (e : Int) (b : Heap), begT ⟨n, ops⟩ inp [i] h = e → e ≠ 0 → RetR VJ 3 Q [.str [], .int .i64 e] ([.arrI .i64 1 (dgF [i]), .box [.str h], .box [.int .i64 i]] ++ b) := by
  intro e b he he0
  refine fin ([], e) b ?_
  rw [← hF]
  unfold z3
  rw [he, if_pos he0]
 refine ⟨(⟨n, ops⟩, inp), ⟨by simp [za], h1, h2⟩, ⟨_, rfl⟩, ?_⟩
 intro v hv
 replace hv : v = zw ⟨n, ops⟩ inp := hv
 refine ⟨fun g => ?_, fun g => ?_⟩
 ·have g : v.2 ≠ 0 := by simpa using g
  exact bad _ [_] (by unfold begT; rw [← hv, if_pos g]) g
 have g : v.2 = 0 := by simpa using g
 have hbeg : begT ⟨n, ops⟩ inp [i] h = if qP ⟨n, ops⟩ [i] then (if errR h ≠ 0 then errR h else if h = [48] then 16 else 0) else 2 := by
  unfold begT; rw [← hv, if_neg (fun k => k g)]
 refine zb.loop (ι := {k : Nat // k ≤ 1 ∧ ∀ j, j < k → 0 ≤ dgF [i] j ∧ dgF [i] j < n}) (fun k => StDi inp h v.1 k.1) (fun _ => HtDi n ops h i) (fun k => 1 - k.1) ⟨0, Nat.zero_le _, fun j q => absurd q (Nat.not_lt_zero j)⟩ 0 ?_ ?_ (by kernel_rfl)
 ·exact ⟨by simp [StDi, ratS, za], by simp [HtDi, opS, za], by kernel_rfl, by show 3 ≤ 4; decide⟩
 rintro ⟨k, hk, hkp⟩
 refine zb.run hmix Xr [1, 2, 4, 5, 12, 30, 31, 32] 400 (T := .ite (decide ((↑k : Int) < 1)) (.side ((0 : Int) ≤ k ∧ (↑k : Int) < 1) (.ite (!bif decide ((0 : Int) ≤ dgF [i] (0 + Int.toNat (↑k : Int))) then decide (dgF [i] (0 + Int.toNat (↑k : Int)) < n) else false) (.leaf (.ret [.str (Array.toList #[]), .int .i64 2] [Blk.arrI .i64 1 (dgF [i]), .box [.str h], .box [.int .i64 i], .box [.int .i64 n, .sl ops.length 4 (opG ops)]])) (.side (inR .i64 ((↑k : Int) + (1 : Int))) (.leaf (.back 0 [(1, .sl inp.length 1 (ratG inp)), (2, .str h), (4, .fn 40 [] [.ptr 1 0, .ptr 2 0]), (5, .ptr 3 0), (12, .str v.1), (30, .osl 0 1 0 1), (31, .int .i64 1), (32, .int .i64 ((↑k : Int) + (1 : Int)))] [Blk.arrI .i64 1 (dgF [i]), .box [.str h], .box [.int .i64 i], .box [.int .i64 n, .sl ops.length 4 (opG ops)]]))))) (.ex (fun (x : List UInt8) => eqL [AV.str h] [AV.str x] ∧ x.length < 4611686018427387904) fun n_1 => .all (fun (r : Int) => r = errR n_1) fun n_2 => .ite (!decide (n_2 = 0)) (.leaf (.ret [.str (Array.toList #[]), .int .i64 n_2] [Blk.arrI .i64 1 (dgF [i]), .box [.str h], .box [.int .i64 i], .box [.int .i64 n, .sl ops.length 4 (opG ops)]])) (.ite (decide (h = Array.toList #[(48 : UInt8)])) (.leaf (.ret [.str (Array.toList #[]), .int .i64 16] [Blk.arrI .i64 1 (dgF [i]), .box [.str h], .box [.int .i64 i], .box [.int .i64 n, .sl ops.length 4 (opG ops)]])) (.ex (fun (x : Tp × List (List UInt8) × Int × List UInt8 × List Int) => eqL [AV.ptr 0 0, AV.str h, AV.osl 1 1 0 1] [AV.ptr 0 0, AV.str (Prod.fst (Prod.snd (x.2.2))), AV.osl 1 1 0 (List.length (Prod.snd (Prod.snd (x.2.2))))] ∧ eqH [.box [AV.int .i64 n, AV.sl ops.length 4 (opG ops), AV.sl inp.length 1 (ratG inp), AV.int .i64 0], .arr 1 1 (zc 1 [AV.int .i64 i])] [.box [AV.int .i64 (Tp.n x.1), AV.sl (List.length (Tp.ops x.1)) 4 (opG (Tp.ops x.1)), AV.sl (List.length (x.2.1)) 1 (ratG (x.2.1)), AV.int .i64 (Prod.fst (x.2.2))], Blk.arrI .i64 (List.length (Prod.snd (Prod.snd (x.2.2)))) (dgF (Prod.snd (Prod.snd (x.2.2))))] ∧ 2 = 2 ∧ zf x.1 = 0 ∧ (↑(List.length (x.2.1)) : Int) = Tp.n x.1 ∧ allQ (x.2.1) ∧ errR (Prod.fst (Prod.snd (x.2.2))) = (0 : Int) ∧ (∀ (i : Int), i ∈ Prod.snd (Prod.snd (x.2.2)) → (0 : Int) ≤ i ∧ i < Tp.n x.1) ∧ List.length (Prod.snd (Prod.snd (x.2.2))) < 1099511627776) fun n_3 => .all (fun (r : List UInt8 × Int) => r = stpA (Prod.fst (n_3.2.2)) (atT n_3.1 (n_3.2.1) (Prod.fst (Prod.snd (n_3.2.2))) (Prod.snd (Prod.snd (n_3.2.2))))) fun n_4 => .ex (fun (x : Tp × List (List UInt8) × Int × Int × List UInt8 × List UInt8) => eqL [AV.ptr 0 0, AV.fn 24 [] [], AV.str n_4.1, AV.str v.1] [AV.ptr 0 0, AV.fn (opN (Prod.fst (Prod.snd (x.2.2)))) [] [], AV.str (Prod.fst (Prod.snd (Prod.snd (x.2.2)))), AV.str (Prod.snd (Prod.snd (Prod.snd (x.2.2))))] ∧ eqH [.box [AV.int .i64 (Tp.n n_3.1), AV.sl (List.length (Tp.ops n_3.1)) 4 (opG (Tp.ops n_3.1)), AV.sl (List.length (n_3.2.1)) 1 (ratG (n_3.2.1)), AV.int .i64 n_4.2]] [.box [AV.int .i64 (Tp.n x.1), AV.sl (List.length (Tp.ops x.1)) 4 (opG (Tp.ops x.1)), AV.sl (List.length (x.2.1)) 1 (ratG (x.2.1)), AV.int .i64 (Prod.fst (x.2.2))]] ∧ 1 = 1 ∧ (Prod.fst (Prod.snd (x.2.2)) = (3 : Int) ∨ Prod.fst (Prod.snd (x.2.2)) = (4 : Int) ∨ Prod.fst (Prod.snd (x.2.2)) = (5 : Int) ∨ Prod.fst (Prod.snd (x.2.2)) = (6 : Int)) ∧ List.length (Prod.fst (Prod.snd (Prod.snd (x.2.2)))) < 2305843009213693952 ∧ List.length (Prod.snd (Prod.snd (Prod.snd (x.2.2)))) < 2305843009213693952) fun n_5 => .all (fun (r : List UInt8 × Int) => r = stp (Prod.fst (n_5.2.2)) (arR (Prod.fst (Prod.snd (n_5.2.2)))) (Prod.fst (Prod.snd (Prod.snd (n_5.2.2)))) (Prod.snd (Prod.snd (Prod.snd (n_5.2.2))))) fun n_6 => .ex (fun (x : Tp × List (List UInt8) × Int × Int × List UInt8 × List UInt8) => eqL [AV.ptr 0 0, AV.fn 62 [] [], AV.str n_6.1, AV.str h] [AV.ptr 0 0, AV.fn (opN (Prod.fst (Prod.snd (x.2.2)))) [] [], AV.str (Prod.fst (Prod.snd (Prod.snd (x.2.2)))), AV.str (Prod.snd (Prod.snd (Prod.snd (x.2.2))))] ∧ eqH [.box [AV.int .i64 (Tp.n n_5.1), AV.sl (List.length (Tp.ops n_5.1)) 4 (opG (Tp.ops n_5.1)), AV.sl (List.length (n_5.2.1)) 1 (ratG (n_5.2.1)), AV.int .i64 n_6.2]] [.box [AV.int .i64 (Tp.n x.1), AV.sl (List.length (Tp.ops x.1)) 4 (opG (Tp.ops x.1)), AV.sl (List.length (x.2.1)) 1 (ratG (x.2.1)), AV.int .i64 (Prod.fst (x.2.2))]] ∧ 1 = 1 ∧ (Prod.fst (Prod.snd (x.2.2)) = (3 : Int) ∨ Prod.fst (Prod.snd (x.2.2)) = (4 : Int) ∨ Prod.fst (Prod.snd (x.2.2)) = (5 : Int) ∨ Prod.fst (Prod.snd (x.2.2)) = (6 : Int)) ∧ List.length (Prod.fst (Prod.snd (Prod.snd (x.2.2)))) < 2305843009213693952 ∧ List.length (Prod.snd (Prod.snd (Prod.snd (x.2.2)))) < 2305843009213693952) fun n_7 => .all (fun (r : List UInt8 × Int) => r = stp (Prod.fst (n_7.2.2)) (arR (Prod.fst (Prod.snd (n_7.2.2)))) (Prod.fst (Prod.snd (Prod.snd (n_7.2.2)))) (Prod.snd (Prod.snd (Prod.snd (n_7.2.2))))) fun n_8 => .ite (!decide (n_8.2 = 0)) (.leaf (.ret [.str (Array.toList #[]), .int .i64 n_8.2] [Blk.arrI .i64 1 (dgF [i]), .box [.str h], .box [.int .i64 i], .box [.int .i64 n, .sl ops.length 4 (opG ops)], .box [.int .i64 (Tp.n n_7.1), .sl (List.length (Tp.ops n_7.1)) 4 (opG (Tp.ops n_7.1)), .sl (List.length (n_7.2.1)) 1 (ratG (n_7.2.1)), .int .i64 n_8.2], Blk.arrI .i64 (List.length (Prod.snd (Prod.snd (n_3.2.2)))) (dgF (Prod.snd (Prod.snd (n_3.2.2))))])) (.leaf (.ret [.str n_8.1, .int .i64 0] [Blk.arrI .i64 1 (dgF [i]), .box [.str h], .box [.int .i64 i], .box [.int .i64 n, .sl ops.length 4 (opG ops)], .box [.int .i64 (Tp.n n_7.1), .sl (List.length (Tp.ops n_7.1)) 4 (opG (Tp.ops n_7.1)), .sl (List.length (n_7.2.1)) 1 (ratG (n_7.2.1)), .int .i64 n_8.2], Blk.arrI .i64 (List.length (Prod.snd (Prod.snd (n_3.2.2)))) (dgF (Prod.snd (Prod.snd (n_3.2.2))))])))))) (by kernel_rfl) ?_
 simp only [Tree.holds, zd, inR, lo, hi, Int.toNat_natCast, Nat.zero_add]
 refine ⟨fun hlt => ?_, fun hge => ?_⟩
 ·have hlt : k < 1 := by have := of_decide_eq_true hlt; omega
  obtain rfl : k = 0 := by omega
  refine ⟨by omega, fun _ => ⟨fun g2 => ?_, fun g2 => ⟨by omega, fun _ => ?_⟩⟩⟩
  ·refine bad 2 [_] ?_ (by decide)
   rw [hbeg, if_neg]
   intro g3
   simp only [qP, List.all_cons, List.all_nil, Bool.and_true, Bool.and_eq_true] at g3
   have g2 : (!bif decide (0 ≤ i) then decide (i < n) else false) = true := g2
   rw [g3.1, g3.2] at g2
   cases g2
  ·rw [if_pos trivial]
   have g2 : (!bif decide (0 ≤ i) then decide (i < n) else false) = false := g2
   have g3 : 0 ≤ i ∧ i < n := by
    by_cases a : 0 ≤ i
    ·by_cases b : i < n
     ·exact ⟨a, b⟩
     ·rw [decide_eq_true a, decide_eq_false b] at g2; cases g2
    ·rw [decide_eq_false a] at g2; cases g2
   exact ⟨⟨1, Nat.le_refl _, fun j hj => (show j = 0 by omega) ▸ g3⟩, by show 1 - 1 < 1 - 0; decide, by simp [StDi, ratS, za], by simp [HtDi, opS, za], by kernel_rfl, by show 3 ≤ 4; decide⟩
 have hk1 : k = 1 := by have := of_decide_eq_false hge; omega
 subst hk1
 have hpl : 0 ≤ i ∧ i < n := hkp 0 (by decide)
 have hplB : qP ⟨n, ops⟩ [i] = true := by
  simp only [qP, List.all_cons, List.all_nil, Bool.and_true]
  rw [decide_eq_true hpl.1, decide_eq_true hpl.2]; rfl
 rw [if_pos hplB] at hbeg
 refine ⟨h, ⟨by simp, by omega⟩, ⟨_, rfl⟩, ?_⟩
 intro e he
 replace he : e = errR h := he
 rw [← he] at hbeg
 refine ⟨fun g2 => ?_, fun g2 => ?_⟩
 ·have g2 : e ≠ 0 := by simpa using g2
  exact bad _ [_] (by rw [hbeg, if_pos g2]) g2
 have g2 : e = 0 := by simpa using g2
 rw [if_neg (fun q => q g2)] at hbeg
 refine ⟨fun g4 => ?_, fun g4 => ?_⟩
 ·exact bad _ [_] (by rw [hbeg, if_pos (of_decide_eq_true g4)]) (by decide)
 rw [if_neg (of_decide_eq_false g4)] at hbeg
 obtain ⟨v1, v2, v3, v4, v5⟩ := xx (hv ▸ g)
 rw [← hv] at v4
 have he0 : errR h = 0 := he ▸ g2
 have hl := qL he0
 have hlv := qL v4
 refine ⟨(⟨n, ops⟩, inp, 0, h, [i]), ⟨by simp, by simp [za]; exact ZU, trivial, v1, v2, v3, he0, fun x hx => by rw [List.mem_singleton.1 hx]; exact hpl, by show 1 < _; decide⟩, ⟨_, rfl⟩, ?_⟩
 intro r hr
 replace hr : r = atT ⟨n, ops⟩ inp h [i] := hr
 have gr : qG r := hr ▸ wm he0 v1 v2 v3 (fun x hx => by rw [List.mem_singleton.1 hx]; exact hpl)
 have l1 := qi gr
 refine ⟨(⟨n, ops⟩, inp, r.2, 4, r.1, v.1), ⟨by simp [opN], by simp [za], trivial, .inr (.inl rfl), by show r.1.length < _; omega, by show v.1.length < _; omega⟩, ⟨_, rfl⟩, ?_⟩
 intro u hu
 replace hu : u = stp r.2 (arR 4) r.1 v.1 := hu
 have gu : qG u := hu ▸ qS (fun q => ⟨jt gr q, v4⟩)
 have l2 := qi gu
 refine ⟨(⟨n, ops⟩, inp, u.2, 6, u.1, h), ⟨by simp [opN], by simp [za], trivial, .inr (.inr (.inr rfl)), by show u.1.length < _; omega, by show h.length < _; omega⟩, ⟨_, rfl⟩, ?_⟩
 intro w hw
 replace hw : w = stp u.2 (arR 6) u.1 h := hw
 have hFw : F = endR w := by
  rw [← hF]
  unfold z3 xF
  rw [if_neg (fun q => q hbeg), ← hv, ← hr, ← arR4, ← hu, ← arR6, ← hw]
 unfold endR at hFw
 refine ⟨fun g5 => ?_, fun g5 => ?_⟩
 ·have g5 : w.2 ≠ 0 := by simpa using g5
  rw [if_pos g5] at hFw
  exact fin ([], w.2) _ hFw
 ·have g5 : w.2 = 0 := by simpa using g5
  rw [if_neg (fun q => q g5)] at hFw
  exact fin (w.1, 0) _ hFw
def KZ : Ctr := ctrP true (fun p : Tp × List (List UInt8) × Int × List UInt8 => [p.1.av, ratS p.2.1, .int .i64 p.2.2.1, .str p.2.2.2])
 (fun p => zy p.1 ∧ zN p.2.1 ∧ p.2.2.2.length < 2 ^ 49) (fun p r => r = z3 p.1 p.2.1 p.2.2.1 p.2.2.2)
 (fun p (r : List UInt8 × Int) => (.tup [.str r.1, .int .i64 r.2], []))
noncomputable def GD5 : Nat → Option Ctr := fun f => if f = 39 then some (VJ) else none
theorem UQ : ∀ g c, GD5 g = some c → ze Try.prog g c := okIf YN (zz)
theorem VZ : ze Try.prog 21 KZ := by
 refine zr (fn := Try.f21) (c := Try.f21.body.getD .skip) rfl rfl rfl fun p hp O w0 Q hq => ?_
 obtain ⟨⟨n, ops⟩, inp, i, h⟩ := p
 replace hq := hq _ rfl
 simp only at hp hq
 refine zb.run hmix UQ [] 400 (T := .ex (fun (x : Tp × List (List UInt8) × List UInt8 × Int) => eqL [AV.agg [AV.int .i64 n, AV.sl ops.length 4 (opG ops)], AV.sl inp.length 1 (ratG inp), AV.str h, AV.osl 0 1 0 1, AV.fn 40 [] [AV.ptr 1 0, AV.ptr 2 0]] [AV.agg [AV.int .i64 (Tp.n x.1), AV.sl (List.length (Tp.ops x.1)) 4 (opG (Tp.ops x.1))], AV.sl (List.length (x.2.1)) 1 (ratG (x.2.1)), AV.str (Prod.fst (x.2.2)), AV.osl 0 1 0 1, AV.fn 40 [] [AV.ptr 1 0, AV.ptr 2 0]] ∧ eqH [.arr 1 1 (zc 1 [AV.int .i64 i]), .box [AV.str h], .box [AV.int .i64 i]] [Blk.arrI .i64 1 (dgF [Prod.snd (x.2.2)]), .box [AV.str (Prod.fst (x.2.2))], .box [AV.int .i64 (Prod.snd (x.2.2))]] ∧ 3 = 3 ∧ zy x.1 ∧ zN (x.2.1) ∧ List.length (Prod.fst (x.2.2)) < 562949953421312) fun n_1 => .all (fun (r : List UInt8 × Int) => r = z3 n_1.1 (n_1.2.1) (Prod.snd (n_1.2.2)) (Prod.fst (n_1.2.2))) fun n_2 => .leaf (.ret [.str n_2.1, .int .i64 n_2.2] [.box [.int .i64 n, .sl ops.length 4 (opG ops)], .box [.int .i64 (Prod.snd (n_1.2.2))], .box [.str (Prod.fst (n_1.2.2))], Blk.arrI .i64 1 (dgF [Prod.snd (n_1.2.2)])])) (by kernel_rfl) ?_
 simp only [Tree.holds, zd]
 refine ⟨(⟨n, ops⟩, inp, h, i), ⟨by simp [za], by simp; exact ZU, trivial, hp⟩, ⟨_, rfl⟩, ?_⟩
 rintro _ rfl
 exact RetR.scal hq rfl (by simp [resV])
end Go.Proofs.Try
end
