/- The law returns true for every input, and each argument reads afterwards as it read before; no condition. -/
import Derived.Test.YthhkojokgcngnaaSxd
import Derived.SizedLaws
import Derived.ChangeArms
import Derived.Deep.Slices
import Derived.Carry
import Derived.LaidMore
import Derived.WideKeyElems2
import Derived.ProofKit
import Derived.OpenShut
import Derived.ReadAgain
import Derived.Test.YthhkojokgcngnaaRows
set_option linter.unusedVariables false
set_option linter.unusedSimpArgs false
set_option linter.unusedSectionVars false

/- Rationals: splitting and checking. -/
section
set_option maxRecDepth 100000
open Go Go.Sx Go.Proofs Go.Nov
namespace Go.Proofs.Try
attribute [local simp] eqKV eqA eqA0 eqH eqB eqL eqL0
noncomputable def K104 : List Go.Sx.Item := [.code (Try.f104.body.getD .skip)]
theorem yc (s : List UInt8) : Lib.indexByte s 47 = if z0 s < s.length then (z0 s : Int) else -1 := by
 induction s with
 | nil => rfl
 | cons c s ih =>
  simp only [Lib.indexByte, z0, List.findIdx_cons]
  cases h : (c == 47) with
  | true => simp
  | false =>
   simp only [Bool.false_eq_true, if_false, ih, cond_false, List.length_cons]
   show _ = if z0 s + 1 < s.length + 1 then ((z0 s + 1 : Nat) : Int) else -1
   by_cases h2 : z0 s < s.length
   ·rw [if_pos h2, if_neg (by simp), if_pos (by omega)]; omega
   ·rw [if_neg h2, if_pos (by rfl), if_neg (by omega)]
def JS : Ctr := ctrP true (fun s : List UInt8 => [.str s, .str [47]]) (fun s => True) (fun s r => r = if z0 s < s.length then (z0 s : Int) else -1) (fun _ (r : Int) => (.int .i64 r, []))
theorem Xi : zf Try.prog 110 JS := by
 intro args hc Q hq _
 simp only [JS, ctrP] at hq
 split at hq
 ·obtain ⟨s, ⟨h1, _⟩, _, h3⟩ := hq
  have hq := h3 _ rfl
  simp only [Tree.holds] at hq
  refine q8.le h1 ?_
  intro O w σ vals hg hh hr
  simp only [RepL, Rep] at hr
  obtain ⟨v1, r1, rfl, rfl, v2, r2, rfl, rfl, rfl⟩ := hr
  refine .inl ⟨enters_of Try.func110 (by kernel_rfl) rfl .., ?_⟩
  refine (Try.JQ ⟨s.toArray⟩ 47 w).mono ?_
  rintro e w' ⟨rfl, rfl⟩
  have hx := yc s
  have h0 : σ = [] := List.length_eq_zero_iff.1 hh.len
  subst h0
  refine ⟨_, rfl, _, [], [], hq, ?_, ⟨rfl, fun i j e f a b h => by simp at h, fun i e a h => by simp at h, fun i e b h => by simp at h⟩, hg, Nat.le_refl _, Hold.refl _ _ _, Ext.refl _ _⟩
  simp only [Rep]
  rw [← hx]
 ·exact hq.elim
def cutC : Ctr := ctrP true (fun s : List UInt8 => [.str s, .str [47]]) (fun s => s.length < 2 ^ 62) (fun s r => r = cutR s) (fun _ r => (.tup [.str r.1, .str r.2.1, .bool r.2.2], []))
noncomputable def GC1 : Nat → Option Ctr := fun f => if f = 110 then some (JS) else none
theorem YE : ∀ g c, GC1 g = some c → zf Try.prog g c := okIf Xi (z3)
theorem Yc : zf Try.prog 93 cutC := by
 refine zn (fn := Try.f93) (c := Try.f93.body.getD .skip) rfl rfl rfl fun s hs O w0 Q hq => ?_
 replace hq := hq _ rfl
 refine zc.run hmix YE [] 400 (T := .ex (fun (x : List UInt8) => eqL [AV.str s, AV.str [(47 : UInt8)]] [AV.str x, AV.str [(47 : UInt8)]] ∧ True) fun n => .all (fun (r : Int) => r = if z0 n < n.length then (↑(z0 n) : Int) else (-1 : Int)) fun n => .ite (decide ((0 : Int) ≤ n)) (.side ((0 : Int) ≤ n ∧ n ≤ (↑s.length : Int)) (.side (inR .i64 (n + (1 : Int))) (.side ((0 : Int) ≤ n + (1 : Int) ∧ n + (1 : Int) ≤ s.length) (.leaf (.ret [.str (List.drop 0 (List.take (Int.toNat n) s)), .str (List.drop (Int.toNat (n + (1 : Int))) (List.take s.length s)), .bool true] []))))) (.leaf (.ret [.str s, .str (Array.toList #[]), .bool false] []))) (by kernel_rfl) ?_
 simp only [Tree.holds, ze, inR, lo, hi]
 refine ⟨s, ⟨by simp, trivial⟩, ⟨_, rfl⟩, ?_⟩
 rintro _ rfl
 by_cases h : z0 s < s.length
 ·simp only [if_pos h]
  rw [Z2 h] at hq
  refine ⟨fun _ => ⟨by omega, fun _ => ⟨by omega, fun _ => ⟨by omega, fun _ => ?_⟩⟩⟩, fun hn => ?_⟩
  ·refine RetR.scal hq rfl ?_
   simp [resV]
  ·have := of_decide_eq_false hn; omega
 ·simp only [if_neg h]
  rw [Jt h] at hq
  refine ⟨fun hn => ?_, fun _ => RetR.scal hq rfl (by simp [resV])⟩
  have := of_decide_eq_true hn; omega
noncomputable def GC2 : Nat → Option Ctr := fun f => if f = 93 then some (cutC) else none
theorem Ud : ∀ g c, GC2 g = some c → zf Try.prog g c := okIf Yc (z3)
theorem YD : zf Try.prog 83 cutC := by
 refine zn (fn := Try.f83) (c := Try.f83.body.getD .skip) rfl rfl rfl fun s hs O w0 Q hq => ?_
 replace hq := hq _ rfl
 refine zc.run hmix Ud [] 400 (T := .ex (fun (x : List UInt8) => eqL [AV.str s, AV.str [(47 : UInt8)]] [AV.str x, AV.str [(47 : UInt8)]] ∧ x.length < 4611686018427387904) fun n => .all (fun (r : List UInt8 × List UInt8 × Bool) => r = cutR n) fun n => .leaf (.ret [.str n.1, .str n.2.1, .bool n.2.2] [])) (by kernel_rfl) ?_
 simp only [Tree.holds, ze, inR, lo, hi]
 refine ⟨s, ⟨by simp, hs⟩, ⟨_, rfl⟩, ?_⟩
 rintro _ rfl
 exact RetR.scal hq rfl (by simp [resV])
def X2 : Ctr := ctrP true (fun s : List UInt8 => [.str s]) (fun s => s.length < 2 ^ 62) (fun s r => r = cutR s) (fun _ r => (.tup [.str r.1, .str r.2.1, .bool r.2.2], []))
noncomputable def GC3 : Nat → Option Ctr := fun f => if f = 83 then some (cutC) else if f = 64 then some (uz) else none
theorem Kj : ∀ g c, GC3 g = some c → zf Try.prog g c := okIf YD (okIf ub (z3))
theorem KW : zf Try.prog 62 X2 := by
 refine zn (fn := Try.f62) (c := Try.f62.body.getD .skip) rfl rfl rfl fun s hs O w0 Q hq => ?_
 replace hq := hq _ rfl
 refine zc.run hmix Kj [] 400 (T := .ex (fun (x : List UInt8) => eqL [AV.str s, AV.str (Array.toList #[(47 : UInt8)])] [AV.str x, AV.str [(47 : UInt8)]] ∧ x.length < 4611686018427387904) fun n => .all (fun (r : List UInt8 × List UInt8 × Bool) => r = cutR n) fun n => .leaf (.ret [.str n.1, .str n.2.1, .bool n.2.2] [])) (by kernel_rfl) ?_
 simp only [Tree.holds, ze, inR, lo, hi]
 refine ⟨s, ⟨by simp, hs⟩, ⟨_, rfl⟩, ?_⟩
 rintro _ rfl
 exact RetR.scal hq rfl (by simp [resV])
def Y5 : Ctr := ctrP true (fun s : List UInt8 => [.str s]) (fun s => s.length < 2 ^ 62) (fun s r => r = if errI s = 12 then 12 else 0) (fun _ (r : Int) => (.int .i64 r, []))
theorem XX : zf Try.prog 63 Y5 := by
 refine zn (fn := Try.f63) (c := Try.f63.body.getD .skip) rfl rfl rfl fun s hs O w0 Q hq => ?_
 replace hq := hq _ rfl
 refine zc.run hmix Kj [] 400 (T := .ex (fun (x : List UInt8) => eqL [AV.str s] [AV.str x] ∧ x.length < 4611686018427387904) fun n => .all (fun (r : Int) => r = errI n) fun n => .ite (!decide (n = 14)) (.leaf (.ret [.int .i64 n] [])) (.leaf (.ret [.int .i64 0] []))) (by kernel_rfl) ?_
 simp only [Tree.holds, ze, inR, lo, hi]
 refine ⟨s, ⟨by simp, hs⟩, ⟨_, rfl⟩, ?_⟩
 rintro _ rfl
 rcases jm s with h | h | h <;> simp only [h] at hq ⊢
 all_goals
  refine ⟨fun h => ?_, fun h => ?_⟩
  all_goals first
   | (exfalso; revert h; decide)
   | exact RetR.scal hq rfl (by simp [resV])
def W9 : Ctr := ctrP true (fun s : List UInt8 => [.str s]) (fun s => s.length < 2 ^ 62) (fun s r => r = errR s) (fun _ (r : Int) => (.int .i64 r, []))
noncomputable def GC4 : Nat → Option Ctr := fun f => if f = 62 then some (X2) else if f = 63 then some (Y5) else if f = 64 then some (uz) else if f = 65 then some (gcdC) else none
theorem YB : ∀ g c, GC4 g = some c → zf Try.prog g c := okIf KW (okIf XX (okIf ub (okIf YA (z3))))
theorem V2 : zf Try.prog 40 W9 := by
 refine zn (fn := Try.f40) (c := Try.f40.body.getD .skip) rfl rfl rfl fun s hs O w0 Q hq => ?_
 replace hq := hq _ rfl
 refine zc.run hmix YB [] 400 (T := .ex (fun (x : List UInt8) => eqL [AV.str s] [AV.str x] ∧ x.length < 4611686018427387904) fun n => .all (fun (r : List UInt8 × List UInt8 × Bool) => r = cutR n) fun n => .ex (fun (x : List UInt8) => eqL [AV.str n.1] [AV.str x] ∧ x.length < 4611686018427387904) fun n_1 => .all (fun (r : Int) => r = if errI n_1 = 12 then (12 : Int) else (0 : Int)) fun n_2 => .ex (fun (x : List UInt8) => (!decide (n_2 = 0)) = false ∧ n.2.2 = true → eqL [AV.str n.2.1] [AV.str x] ∧ x.length < 4611686018427387904) fun n_3 => .all (fun (x : Int) => (!decide (n_2 = 0)) = false ∧ n.2.2 = true → x = if errI n_3 = 12 then (12 : Int) else (0 : Int)) fun n_4 => .side (((!decide (n_2 = 0)) = false ∧ n.2.2 = true) ∧ (!decide (n_4 = 0)) = false → (0 : Int) ≤ 0 ∧ (0 : Int) < n.2.1.length) (.ite (bif !decide (n_2 = 0) then true else bif n.2.2 then bif bif bif !decide (n_4 = 0) then true else decide ((↑(UInt8.toNat (List.getD n.2.1 0 (0 : UInt8))) : Int) = 45) then true else decide (n.2.1 = Array.toList #[(48 : UInt8)]) then true else decide (n.2.1 = Array.toList #[(49 : UInt8)]) else false) (.leaf (.ret [.int .i64 12] [])) (.ex (fun (x : List UInt8) => eqL [AV.str n.1] [AV.str x] ∧ x.length < 4611686018427387904) fun n_5 => .all (fun (r : Int) => r = errI n_5) fun n_6 => .ex (fun (x : List UInt8) => (!decide (n_6 = 0)) = false ∧ n.2.2 = true → eqL [AV.str n.2.1] [AV.str x] ∧ x.length < 4611686018427387904) fun n_7 => .all (fun (x : Int) => (!decide (n_6 = 0)) = false ∧ n.2.2 = true → x = errI n_7) fun n_8 => .ite (bif !decide (n_6 = 0) then true else bif n.2.2 then !decide (n_8 = 0) else false) (.leaf (.ret [.int .i64 14] [])) (.ite n.2.2 (.ex (fun (x : List UInt8 × List UInt8) => eqL [AV.str n.1, AV.str n.2.1] [AV.str x.1, AV.str x.2] ∧ x.1.length < 4611686018427387904 ∧ x.2.length < 4611686018427387904) fun n => .all (fun (r : List UInt8 × Int) => r = gcdR n.1 n.2) fun n => .ite (!decide (n.1 = Array.toList #[(49 : UInt8)])) (.leaf (.ret [.int .i64 12] [])) (.leaf (.ret [.int .i64 0] []))) (.leaf (.ret [.int .i64 0] [])))))) (by kernel_rfl) ?_
 simp only [Tree.holds, ze, inR, lo, hi]
 refine ⟨s, ⟨by simp, hs⟩, ⟨_, rfl⟩, ?_⟩
 rintro _ rfl
 have hlen := W3 s
 have hno : (cutR s).2.2 = false → (cutR s).1 = s := by
  intro h
  unfold cutR at h ⊢
  split at h
  ·cases h
  ·rename_i hn; rw [if_neg hn]
 simp only [errR] at hq
 generalize cutR s = c at hq hlen hno ⊢
 obtain ⟨n, d, f⟩ := c
 simp only at hq hlen hno ⊢
 refine ⟨n, ⟨by simp, by omega⟩, ⟨_, rfl⟩, ?_⟩
 rintro _ rfl
 refine ⟨d, fun _ => ⟨by simp, by omega⟩, ⟨_, fun _ => rfl⟩, ?_⟩
 intro fd hfd
 cases f with
 | false =>
  have hn := hno rfl
  subst hn
  rw [if_neg (by decide)] at hq
  refine ⟨fun h => by simp at h, fun _ => ⟨fun h => ?_, fun h => ?_⟩⟩
  ·rcases jm n with e | e | e <;> rw [e] at hq h
   ·simp at h
   ·exact RetR.scal hq rfl (by simp [resV])
   ·simp at h
  ·have hn12 : errI n ≠ 12 := by
    intro e; rw [e] at h; simp at h
   refine ⟨n, ⟨by simp, by omega⟩, ⟨_, rfl⟩, ?_⟩
   rintro _ rfl
   refine ⟨d, fun _ => ⟨by simp, by omega⟩, ⟨_, fun _ => rfl⟩, ?_⟩
   intro fd2 _
   refine ⟨fun h => ?_, fun h => ⟨fun h => (by cases h), fun _ => ?_⟩⟩
   ·rcases jm n with e | e | e
    ·rw [e] at h; simp at h
    ·exact absurd e hn12
    ·rw [e] at hq; exact RetR.scal hq rfl (by simp [resV])
   ·rcases jm n with e | e | e
    ·rw [e] at hq; exact RetR.scal hq rfl (by simp [resV])
    ·exact absurd e hn12
    ·rw [e] at h; simp at h
 | true =>
  rw [if_pos rfl] at hq
  by_cases hn : errI n = 12
  ·rw [if_pos (.inl hn)] at hq
   simp only [hn]
   refine ⟨fun h => by simp at h, fun _ => ⟨fun _ => RetR.scal hq rfl (by simp [resV]), fun h => by simp at h⟩⟩
  ·rw [if_neg hn] at hfd ⊢
   have hfd := hfd ⟨by simp, rfl⟩
   subst hfd
   by_cases hd : errI d = 12
   ·rw [if_pos (.inr (.inl hd))] at hq
    rw [if_pos hd]
    refine ⟨fun h => by simp at h, fun _ => ⟨fun _ => RetR.scal hq rfl (by simp [resV]), fun h => by simp at h⟩⟩
   ·rw [if_neg hd]
    have hd0 : d ≠ [] := by rintro rfl; exact hd Xx
    have hneg := Vx hd0
    have hneg2 : decide (((d.getD 0 0).toNat : Int) = 45) = negI d := by
     rw [hneg]
     by_cases h : d.getD 0 0 = 45
     ·rw [h]; rfl
     ·rw [decide_eq_false h]
      refine decide_eq_false fun h2 => h (yJ ?_)
      rw [h2]; rfl
    rw [hneg2]
    refine ⟨fun _ => by have := List.length_pos_iff.2 hd0; omega, fun _ => ⟨fun h => ?_, fun h => ?_⟩⟩
    ·have : negI d = true ∨ d = [48] ∨ d = [49] := by
      revert h
      cases negI d <;> simp
     rw [if_pos (.inr (.inr this))] at hq
     exact RetR.scal hq rfl (by simp [resV])
    ·have : ¬ (errI n = 12 ∨ errI d = 12 ∨ negI d = true ∨ d = [48] ∨ d = [49]) := by
      revert h
      cases negI d <;> simp [hn, hd]
     rw [if_neg this] at hq
     refine ⟨n, ⟨by simp, by omega⟩, ⟨_, rfl⟩, ?_⟩
     rintro _ rfl
     refine ⟨d, fun _ => ⟨by simp, by omega⟩, ⟨_, fun _ => rfl⟩, ?_⟩
     intro ed hed
     by_cases hn0 : errI n = 0
     ·have hed := hed ⟨by simp [hn0], rfl⟩
      subst hed
      by_cases hd0 : errI d = 0
      ·rw [if_neg (by simp [hn0, hd0])] at hq
       refine ⟨fun h => by simp [hn0, hd0] at h, fun _ => ⟨fun _ => ?_, fun h => by cases h⟩⟩
       refine ⟨(n, d), ⟨by simp, by simp only; omega, by simp only; omega⟩, ⟨_, rfl⟩, ?_⟩
       rintro _ rfl
       refine ⟨fun h => ?_, fun h => ?_⟩
       ·rw [if_pos (by simpa using h)] at hq
        exact RetR.scal hq rfl (by simp [resV])
       ·rw [if_neg (by simpa using h)] at hq
        exact RetR.scal hq rfl (by simp [resV])
      ·rw [if_pos (.inr hd0)] at hq
       refine ⟨fun _ => RetR.scal hq rfl (by simp [resV]), fun h => by simp [hn0, hd0] at h⟩
     ·rw [if_pos (.inl hn0)] at hq
      refine ⟨fun _ => RetR.scal hq rfl (by simp [resV]), fun h => by simp [hn0] at h⟩
def Jq : Ctr := ctrP true (fun s : List UInt8 => [.str s]) (fun s => s.length < 2 ^ 62) (fun s r => r = if z0 s < s.length then (z0 s : Int) else -1) (fun _ (r : Int) => (.int .i64 r, []))
def SSl (s : List UInt8) (i : Nat) : KV := [(0, .str s), (3, .int .i64 (i : Int))]
theorem QS : zf Try.prog 104 Jq := by
 refine zn (fn := Try.f104) (c := Try.f104.body.getD .skip) rfl rfl rfl fun s hs O w0 Q hq => ?_
 replace hq := hq _ rfl
 refine zc.run hmix z2 [0, 3] 400 (T := .leaf (.loop (Prod.fst (lps K104 0)) (Prod.snd (lps K104 0)) [(0, .str s), (3, .int .i64 0)] [])) (by kernel_rfl) ?_
 simp only [Tree.holds, ze, inR, lo, hi]
 refine zc.loop (ι := {i : Nat // i ≤ s.length ∧ ∀ j, j < i → s.getD j 0 ≠ 47}) (fun i => SSl s i.1) (fun _ => []) (fun i => s.length - i.1) ⟨0, Nat.zero_le _, fun j hj => by omega⟩ 0 ?_ ?_ (by kernel_rfl)
 ·exact ⟨by simp [SSl], by simp, by kernel_rfl, Nat.zero_le _⟩
 ·rintro ⟨i, hil, hib⟩
  refine zc.run hmix z2 [0, 3] 400 (T := .ite (decide ((↑i : Int) < s.length)) (.side ((0 : Int) ≤ i ∧ (↑i : Int) < s.length) (.ite (decide ((↑(UInt8.toNat (List.getD s (Int.toNat (↑i : Int)) (0 : UInt8))) : Int) = 47)) (.leaf (.ret [.int .i64 i] [])) (.side (inR .i64 ((↑i : Int) + (1 : Int))) (.leaf (.back 0 [(0, .str s), (3, .int .i64 ((↑i : Int) + (1 : Int)))] []))))) (.leaf (.ret [.int .i64 (-1 : Int)] []))) (by kernel_rfl) ?_
  simp only [Tree.holds, ze, inR, lo, hi, Int.toNat_natCast]
  refine ⟨fun hlt => ?_, fun hge => ?_⟩
  ·have hlt : i < s.length := by have := of_decide_eq_true hlt; omega
   refine ⟨by omega, fun _ => ⟨fun h => ?_, fun h => ⟨by omega, fun _ => ?_⟩⟩⟩
   ·have h : s.getD i 0 = 47 := yJ (of_decide_eq_true h)
    have e := K8 hlt h hib
    rw [if_pos (by omega), e] at hq
    exact RetR.scal hq rfl (by simp [resV])
   ·have h : s.getD i 0 ≠ 47 := by
     intro h2
     exact of_decide_eq_false h (by rw [h2]; rfl)
    rw [if_pos trivial]
    refine ⟨⟨i + 1, hlt, fun j hj => ?_⟩, by show s.length - (i + 1) < s.length - i; omega, by simp [SSl], by simp, by kernel_rfl, Nat.zero_le _⟩
    rcases Nat.lt_or_ge j i with h1 | h1
    ·exact hib j h1
    ·have : j = i := by omega
     rw [this]; exact h
  ·have hge : i = s.length := by have := of_decide_eq_false hge; omega
   subst hge
   have e := Jp hib
   rw [if_neg (by omega)] at hq
   exact RetR.scal hq rfl (by simp [resV])
def Q9 : Ctr := ctrP true (fun s : List UInt8 => [.str s]) (fun s => s.length < 2 ^ 62) (fun s r => r = ((cutR s).1, if (cutR s).2.2 then (cutR s).2.1 else [49])) (fun _ r => (.tup [.str r.1, .str r.2], []))
noncomputable def GQ1 : Nat → Option Ctr := fun f => if f = 104 then some (Jq) else none
theorem YG : ∀ g c, GQ1 g = some c → zf Try.prog g c := okIf QS (z3)
theorem JG : zf Try.prog 102 Q9 := by
 refine zn (fn := Try.f102) (c := Try.f102.body.getD .skip) rfl rfl rfl fun s hs O w0 Q hq => ?_
 replace hq := hq _ rfl
 refine zc.run hmix YG [] 400 (T := .ex (fun (x : List UInt8) => eqL [AV.str s] [AV.str x] ∧ x.length < 4611686018427387904) fun n => .all (fun (r : Int) => r = if z0 n < n.length then (↑(z0 n) : Int) else (-1 : Int)) fun n => .ite (decide (n < 0)) (.leaf (.ret [.str s, .str (Array.toList #[(49 : UInt8)])] [])) (.side ((0 : Int) ≤ n ∧ n ≤ (↑s.length : Int)) (.side (inR .i64 (n + (1 : Int))) (.side ((0 : Int) ≤ n + (1 : Int) ∧ n + (1 : Int) ≤ s.length) (.leaf (.ret [.str (List.drop 0 (List.take (Int.toNat n) s)), .str (List.drop (Int.toNat (n + (1 : Int))) (List.take s.length s))] [])))))) (by kernel_rfl) ?_
 simp only [Tree.holds, ze, inR, lo, hi]
 refine ⟨s, ⟨by simp, hs⟩, ⟨_, rfl⟩, ?_⟩
 rintro _ rfl
 by_cases h : z0 s < s.length
 ·simp only [if_pos h]
  rw [Z2 h] at hq
  refine ⟨fun hn => ?_, fun hn => ?_⟩
  ·have := of_decide_eq_true hn; omega
  ·refine ⟨by omega, fun _ => ⟨by omega, fun _ => ⟨by omega, fun _ => ?_⟩⟩⟩
   exact RetR.scal hq rfl (by simp [resV])
 ·simp only [if_neg h]
  rw [Jt h] at hq
  refine ⟨fun hn => RetR.scal hq rfl (by simp [resV]), fun hn => ?_⟩
  have := of_decide_eq_false hn; omega
def QM : Ctr := ctrP true (fun s : List UInt8 => [.str s]) (fun s => s.length < 2 ^ 40) (fun s r => r = errR s) (fun _ (r : Int) => (.int .i64 r, []))
noncomputable def GQ2 : Nat → Option Ctr := fun f => if f = 104 then some (Jq) else if f = 102 then some (Q9) else if f = 103 then some (vV) else if f = 105 then some (Y0) else none
theorem YN : ∀ g c, GQ2 g = some c → zf Try.prog g c := okIf QS (okIf JG (okIf xS (okIf XP (z3))))
theorem Wk : zf Try.prog 90 QM := by
 refine zn (fn := Try.f90) (c := Try.f90.body.getD .skip) rfl rfl rfl fun s hs O w0 Q hq => ?_
 replace hq := hq _ rfl
 refine zc.run hmix YN [] 400 (T := .ex (fun (x : List UInt8) => eqL [AV.str s] [AV.str x] ∧ x.length < 4611686018427387904) fun n => .all (fun (r : List UInt8 × List UInt8) => r = (Prod.fst (cutR n), if Prod.snd (Prod.snd (cutR n)) = true then Prod.fst (Prod.snd (cutR n)) else [(49 : UInt8)])) fun n => .ex (fun (x : List UInt8) => eqL [AV.str n.1] [AV.str x] ∧ x.length < 1099511627776) fun n_1 => .all (fun (r : List Nat × Bool × Bool) => r = digR n_1) fun n_2 => .ex (fun (x : List UInt8) => eqL [AV.str n.2] [AV.str x] ∧ x.length < 1099511627776) fun n_3 => .all (fun (r : List Nat × Bool × Bool) => r = digR n_3) fun n_4 => .ex (fun (x : List UInt8) => (bif bif bif !Prod.snd n_2.2 then true else !Prod.snd n_4.2 then true else n_4.2.1 then true else decide (n.2 = Array.toList #[(48 : UInt8)])) = false → eqL [AV.str s] [AV.str x] ∧ x.length < 4611686018427387904) fun n_5 => .all (fun (x : Int) => (bif bif bif !Prod.snd n_2.2 then true else !Prod.snd n_4.2 then true else n_4.2.1 then true else decide (n.2 = Array.toList #[(48 : UInt8)])) = false → x = if z0 n_5 < n_5.length then (↑(z0 n_5) : Int) else (-1 : Int)) fun n_6 => .ite (bif bif bif bif !Prod.snd n_2.2 then true else !Prod.snd n_4.2 then true else n_4.2.1 then true else decide (n.2 = Array.toList #[(48 : UInt8)]) then true else bif decide ((0 : Int) ≤ n_6) then decide (n.2 = Array.toList #[(49 : UInt8)]) else false) (.leaf (.ret [.int .i64 12] [])) (.ite (bif decide ((1000 : Int) < n_2.1.length) then true else decide ((1000 : Int) < n_4.1.length)) (.leaf (.ret [.int .i64 14] [])) (.ex (fun (x : List UInt8 × List UInt8) => eqL [AV.str n.1, AV.str n.2] [AV.str x.1, AV.str x.2] ∧ x.1.length < 1099511627776 ∧ x.2.length < 1099511627776) fun n => .all (fun (r : List UInt8 × Int) => r = gcdR n.1 n.2) fun n => .ex (fun (x : List UInt8) => eqL [AV.str s] [AV.str x] ∧ x.length < 4611686018427387904) fun n_7 => .all (fun (r : Int) => r = if z0 n_7 < n_7.length then (↑(z0 n_7) : Int) else (-1 : Int)) fun n_8 => .ite (bif decide ((0 : Int) ≤ n_8) then !decide (n.1 = Array.toList #[(49 : UInt8)]) else false) (.leaf (.ret [.int .i64 12] [])) (.leaf (.ret [.int .i64 0] []))))) (by kernel_rfl) ?_
 simp only [Tree.holds, ze, inR, lo, hi]
 refine ⟨s, ⟨by simp, by omega⟩, ⟨_, rfl⟩, ?_⟩
 rintro _ rfl
 have hlen := W3 s
 have hfl := X9 s
 have hno : (cutR s).2.2 = false → (cutR s).1 = s := by
  intro h
  unfold cutR at h ⊢
  split at h
  ·cases h
  ·rename_i hn; rw [if_neg hn]
 simp only [errR] at hq
 generalize cutR s = c at hq hlen hfl hno ⊢
 obtain ⟨n, d, f⟩ := c
 simp only at hq hlen hfl hno ⊢
 obtain ⟨e, he⟩ : ∃ e, (if f = true then d else [49]) = e := ⟨_, rfl⟩
 have hel : e.length < 1099511627776 := by
  rw [← he]; split
  ·omega
  ·simp
 simp only [he]
 refine ⟨n, ⟨by simp, by omega⟩, ⟨_, rfl⟩, ?_⟩
 rintro _ rfl
 refine ⟨e, ⟨by simp, by omega⟩, ⟨_, rfl⟩, ?_⟩
 rintro _ rfl
 refine ⟨s, fun _ => ⟨by simp, by omega⟩, ⟨_, fun _ => rfl⟩, ?_⟩
 intro sv hsv
 rcases yI n with ⟨hn1, hn2⟩ | ⟨hn1, ln, hn2, hn3⟩
 ·have hq : Q (.int .i64 12, []) := by
   cases f with
   | false => rw [if_neg (by decide), ← hno rfl, hn1] at hq; exact hq
   | true => rw [if_pos rfl, if_pos (.inl hn1)] at hq; exact hq
  simp only [hn2]
  exact ⟨fun _ => RetR.scal hq rfl (by simp [resV]), fun h => by simp at h⟩
 rcases yI e with ⟨he1, he2⟩ | ⟨he1, le, he2, he3⟩
 ·have hq : Q (.int .i64 12, []) := by
   cases f with
   | false => rw [if_neg (by decide)] at he; subst he; exact absurd he1 (by decide)
   | true =>
    rw [if_pos rfl] at he; subst he
    rw [if_pos rfl, if_pos (.inr (.inl he1))] at hq; exact hq
  simp only [hn2, he2]
  exact ⟨fun _ => RetR.scal hq rfl (by simp [resV]), fun h => by simp at h⟩
 simp only [hn2, he2, Bool.not_true, cond_false] at hsv ⊢
 cases f with
 | false =>
  rw [if_neg (by decide)] at he hq
  subst he
  have hnn : negI [49] = false := by decide
  have h49 : errI [49] = 0 := by decide
  have hs := hno rfl
  subst hs
  simp only [hnn, cond_false] at hsv ⊢
  have hsv := hsv (by decide)
  rw [← hsv] at hfl
  rw [← hfl, hn3, he3, h49]
  refine ⟨fun h => by simp at h, fun _ => ⟨fun h => ?_, fun h => ?_⟩⟩
  ·rcases jm n with e | e | e
   ·rw [e] at h; simp at h
   ·exact absurd e hn1
   ·rw [e] at hq; exact RetR.scal hq rfl (by simp [resV])
  ·have h0 : errI n = 0 := by
    rcases jm n with e | e | e
    ·exact e
    ·exact absurd e hn1
    ·rw [e] at h; simp at h
   rw [h0] at hq
   refine ⟨(n, [49]), ⟨by simp, by simp only; omega, by simp⟩, ⟨_, rfl⟩, ?_⟩
   rintro _ rfl
   refine ⟨n, ⟨by simp, by omega⟩, ⟨_, rfl⟩, ?_⟩
   rintro _ rfl
   rw [← hsv, ← hfl]
   refine ⟨fun h => by simp at h, fun _ => RetR.scal hq rfl (by simp [resV])⟩
 | true =>
  rw [if_pos rfl] at he hq
  subst he
  cases hng : negI d with
  | true =>
   rw [if_pos (.inr (.inr (.inl hng)))] at hq
   exact ⟨fun _ => RetR.scal hq rfl (by simp [resV]), fun h => by simp at h⟩
  | false =>
   simp only [hng, cond_false] at hsv ⊢
   by_cases h48 : d = [48]
   ·rw [if_pos (.inr (.inr (.inr (.inl h48))))] at hq
    rw [decide_eq_true h48]
    exact ⟨fun _ => RetR.scal hq rfl (by simp [resV]), fun h => by simp at h⟩
   ·rw [decide_eq_false h48] at hsv ⊢
    have hsv := hsv rfl
    rw [← hsv] at hfl
    rw [← hfl]
    simp only [cond_false, cond_true]
    by_cases h49 : d = [49]
    ·rw [if_pos (.inr (.inr (.inr (.inr h49))))] at hq
     rw [decide_eq_true h49]
     exact ⟨fun _ => RetR.scal hq rfl (by simp [resV]), fun h => by simp at h⟩
    ·rw [decide_eq_false h49]
     rw [if_neg (by simp [hn1, he1, hng, h48, h49])] at hq
     refine ⟨fun h => (by cases h), fun _ => ?_⟩
     rw [hn3, he3]
     by_cases hn0 : errI n = 0
     ·by_cases hd0 : errI d = 0
      ·rw [if_neg (by simp [hn0, hd0])] at hq
       refine ⟨fun h => by simp [hn0, hd0] at h, fun _ => ?_⟩
       refine ⟨(n, d), ⟨by simp, by simp only; omega, by simp only; omega⟩, ⟨_, rfl⟩, ?_⟩
       rintro _ rfl
       refine ⟨s, ⟨by simp, by omega⟩, ⟨_, rfl⟩, ?_⟩
       rintro _ rfl
       rw [← hsv, ← hfl]
       refine ⟨fun h => ?_, fun h => ?_⟩
       ·rw [if_pos (by simpa using h)] at hq
        exact RetR.scal hq rfl (by simp [resV])
       ·rw [if_neg (by simpa using h)] at hq
        exact RetR.scal hq rfl (by simp [resV])
      ·rw [if_pos (.inr hd0)] at hq
       refine ⟨fun _ => RetR.scal hq rfl (by simp [resV]), fun h => by simp [hn0, hd0] at h⟩
     ·rw [if_pos (.inl hn0)] at hq
      refine ⟨fun _ => RetR.scal hq rfl (by simp [resV]), fun h => by simp [hn0] at h⟩
end Go.Proofs.Try
end

/- Names and days. -/
section
set_option maxRecDepth 100000
open Go Go.Sx Go.Proofs Go.Nov
namespace Go.Proofs.Try
attribute [local simp] eqKV eqA eqA0 eqH eqB eqL eqL0
noncomputable def K38 : List Go.Sx.Item := [.code (Try.f38.body.getD .skip)]
noncomputable def K76 : List Go.Sx.Item := [.code (Try.f76.body.getD .skip)]
theorem W5 (c : UInt8) : (bif bif decide (97 ≤ (c.toNat : Int)) then decide ((c.toNat : Int) ≤ 122) else false then true else bif decide (65 ≤ (c.toNat : Int)) then decide ((c.toNat : Int) ≤ 90) else false) = isL c := by
 have e1 : decide (97 ≤ (c.toNat : Int)) = decide (97 ≤ c.toNat) := decide_eq_decide.2 (by omega)
 have e2 : decide ((c.toNat : Int) ≤ 122) = decide (c.toNat ≤ 122) := decide_eq_decide.2 (by omega)
 have e3 : decide (65 ≤ (c.toNat : Int)) = decide (65 ≤ c.toNat) := decide_eq_decide.2 (by omega)
 have e4 : decide ((c.toNat : Int) ≤ 90) = decide (c.toNat ≤ 90) := decide_eq_decide.2 (by omega)
 rw [e1, e2, e3, e4]
 simp only [isL]
 cases decide (97 ≤ c.toNat) <;> cases decide (c.toNat ≤ 122) <;> cases decide (65 ≤ c.toNat) <;> rfl
def WC : Ctr := ctrP true (fun c : UInt8 => [.int .u8 (c.toNat : Int)]) (fun _ => True) (fun c r => r = isL c) (fun _ (r : Bool) => (.bool r, []))
theorem Vc : zf Try.prog 61 WC := by
 refine zn (fn := Try.f61) (c := Try.f61.body.getD .skip) rfl rfl rfl fun c hs O w0 Q hq => ?_
 replace hq := hq _ rfl
 refine zc.run hmix z2 [] 400 (T := .leaf (.ret [.bool (bif bif decide ((97 : Int) ≤ (↑(UInt8.toNat c) : Int)) then decide ((↑(UInt8.toNat c) : Int) ≤ 122) else false then true else bif decide ((65 : Int) ≤ (↑(UInt8.toNat c) : Int)) then decide ((↑(UInt8.toNat c) : Int) ≤ 90) else false)] [])) (by kernel_rfl) ?_
 simp only [Tree.holds, ze]
 refine RetR.scal hq rfl ?_
 simp only [resV]
 rw [W5]
theorem vU (c d : UInt8) : decide ((c.toNat : Int) = (d.toNat : Int)) = (c == d) := by
 by_cases h : c = d
 ·subst h; simp
 ·rw [decide_eq_false fun h2 => h (yJ h2)]
  simp [h]
theorem XW (c : UInt8) : (bif decide ((c.toNat : Int) < 48) then true else decide (57 < (c.toNat : Int))) = !isD c := by
 rw [Bool.cond_eq_ite]; exact vA c
theorem KQ (c : UInt8) : (bif decide (48 ≤ (c.toNat : Int)) then decide ((c.toNat : Int) ≤ 57) else false) = isD c := by
 have e1 : decide (48 ≤ (c.toNat : Int)) = decide (48 ≤ c.toNat) := decide_eq_decide.2 (by omega)
 have e2 : decide ((c.toNat : Int) ≤ 57) = decide (c.toNat ≤ 57) := decide_eq_decide.2 (by omega)
 rw [e1, e2]; simp only [isD]
 cases decide (48 ≤ c.toNat) <;> cases decide (c.toNat ≤ 57) <;> rfl
theorem Xh (c : UInt8) : (bif bif bif !isL c then bif decide ((c.toNat : Int) < 48) then true else decide (57 < (c.toNat : Int)) else false then !decide ((c.toNat : Int) = 95) else false then !decide ((c.toNat : Int) = 45) else false) = !isN c := by
 rw [XW]
 have e1 : decide ((c.toNat : Int) = 95) = (c == 95) := vU c 95
 have e2 : decide ((c.toNat : Int) = 45) = (c == 45) := vU c 45
 rw [e1, e2]; simp only [isN]
 cases isL c <;> cases isD c <;> cases (c == 95) <;> cases (c == 45) <;> rfl
theorem VO (c : UInt8) (z : Bool) : (bif !bif bif decide (97 ≤ (c.toNat : Int)) then decide ((c.toNat : Int) ≤ 122) else false then true else bif decide (65 ≤ (c.toNat : Int)) then decide ((c.toNat : Int) ≤ 90) else false then
  bif z then true else !bif bif bif decide (48 ≤ (c.toNat : Int)) then decide ((c.toNat : Int) ≤ 57) else false then true else decide ((c.toNat : Int) = 95) then true else decide ((c.toNat : Int) = 45) else false) = !(isL c || (!z && isN c)) := by
 rw [W5, KQ]
 have e1 : decide ((c.toNat : Int) = 95) = (c == 95) := vU c 95
 have e2 : decide ((c.toNat : Int) = 45) = (c == 45) := vU c 45
 rw [e1, e2]; simp only [isN]
 cases isL c <;> cases z <;> cases isD c <;> cases (c == 95) <;> cases (c == 45) <;> rfl
theorem Yn {c : UInt8} (h : isL c = true) : isN c = true := by simp [isN, h]
def Zx : Ctr := ctrP true (fun s : List UInt8 => [.str s]) (fun s => s.length < 2 ^ 62) (fun s r => r = qt s) (fun _ (r : Bool) => (.bool r, []))
noncomputable def GN1 : Nat → Option Ctr := fun f => if f = 61 then some (WC) else none
theorem Kr : ∀ g c, GN1 g = some c → zf Try.prog g c := okIf Vc (z3)
def SNa (s : List UInt8) (i : Nat) : KV := [(0, .str s), (20, .int .i64 (s.length : Int)), (21, .int .i64 (i : Int)), (31, .undef), (32, .undef), (33, .undef), (34, .undef), (35, .undef), (36, .undef), (39, .undef), (40, .undef), (43, .undef), (44, .undef)]
theorem V5 {O : Nat → Prop} {w0 : World} {Q : AV × Heap → Prop} {Hs : Nat → KV → Heap → Prop} (s : List UInt8) (hs : s.length < 2 ^ 62) (hq : Q (.bool (s.all isN), [])) :
  zc Try.prog Try.f38 O 0 w0 [] Hs (RetR Zx 0 Q) (.code (.loop (lps K38 0).1) :: (lps K38 0).2) (mk Try.f38.ntmps (SNa s 0) []) := by
 refine zc.loop (ι := {i : Nat // i ≤ s.length ∧ ∀ j, j < i → isN (s.getD j 0) = true}) (fun i => SNa s i.1) (fun _ => []) (fun i => s.length - i.1) ⟨0, Nat.zero_le _, fun j hj => by omega⟩ 0 ?_ ?_ (by kernel_rfl)
 ·exact ⟨by simp [SNa], by simp, by kernel_rfl, Nat.zero_le _⟩
 ·rintro ⟨i, hil, hib⟩
  refine zc.run hmix Kr [0, 20, 21, 31, 32, 33, 34, 35, 36, 39, 40, 43, 44] 400 (T := .ite (decide ((↑i : Int) < s.length)) (.side ((0 : Int) ≤ i ∧ (↑i : Int) < s.length) (.ex (fun (x : UInt8) => eqL [AV.int .u8 (↑(UInt8.toNat (List.getD s (Int.toNat (↑i : Int)) (0 : UInt8))) : Int)] [AV.int .u8 (↑(UInt8.toNat x) : Int)] ∧ True) fun n => .all (fun (r : Bool) => r = isL n) fun n => .ite (bif bif bif !n then bif decide ((↑(UInt8.toNat (List.getD s (Int.toNat (↑i : Int)) (0 : UInt8))) : Int) < 48) then true else decide ((57 : Int) < (↑(UInt8.toNat (List.getD s (Int.toNat (↑i : Int)) (0 : UInt8))) : Int)) else false then !decide ((↑(UInt8.toNat (List.getD s (Int.toNat (↑i : Int)) (0 : UInt8))) : Int) = 95) else false then !decide ((↑(UInt8.toNat (List.getD s (Int.toNat (↑i : Int)) (0 : UInt8))) : Int) = 45) else false) (.leaf (.ret [.bool false] [])) (.side (inR .i64 ((↑i : Int) + (1 : Int))) (.leaf (.back 0 [(0, .str s), (20, .int .i64 s.length), (21, .int .i64 ((↑i : Int) + (1 : Int))), (31, .undef), (32, .undef), (33, .undef), (34, .undef), (35, .undef), (36, .undef), (39, .undef), (40, .undef), (43, .undef), (44, .undef)] []))))) (.leaf (.ret [.bool true] []))) (by kernel_rfl) ?_
  simp only [Tree.holds, ze, inR, lo, hi, Int.toNat_natCast]
  refine ⟨fun hlt => ?_, fun hge => ?_⟩
  ·have hlt : i < s.length := by have := of_decide_eq_true hlt; omega
   refine ⟨by omega, fun _ => ⟨s.getD i 0, ⟨by simp, trivial⟩, ⟨_, rfl⟩, ?_⟩⟩
   rintro _ rfl
   rw [Xh]
   refine ⟨fun h => ?_, fun h => ⟨by omega, fun _ => ?_⟩⟩
   ·rw [xe hlt (by simpa using h)] at hq
    exact RetR.scal hq rfl (by simp [resV])
   ·rw [if_pos trivial]
    refine ⟨⟨i + 1, hlt, fun j hj => ?_⟩, by show s.length - (i + 1) < s.length - i; omega, by simp [SNa], by simp, by kernel_rfl, Nat.zero_le _⟩
    rcases Nat.lt_or_ge j i with h1 | h1
    ·exact hib j h1
    ·have : j = i := by omega
     rw [this]; simpa using h
  ·have hge : i = s.length := by have := of_decide_eq_false hge; omega
   subst hge
   rw [QT hib] at hq
   exact RetR.scal hq rfl (by simp [resV])
theorem Yg : zf Try.prog 38 Zx := by
 refine zn (fn := Try.f38) (c := Try.f38.body.getD .skip) rfl rfl rfl fun s hs O w0 Q hq => ?_
 replace hq := hq _ rfl
 refine zc.run hmix Kr [0, 20, 21, 31, 32, 33, 34, 35, 36, 39, 40, 43, 44] 400 (T := .side ((bif decide ((↑s.length : Int) < 1) then true else decide ((40 : Int) < s.length)) = false → (0 : Int) ≤ 0 ∧ (0 : Int) < s.length) (.ex (fun (x : UInt8) => (bif decide ((↑s.length : Int) < 1) then true else decide ((40 : Int) < s.length)) = false → eqL [AV.int .u8 (↑(UInt8.toNat (List.getD s 0 (0 : UInt8))) : Int)] [AV.int .u8 (↑(UInt8.toNat x) : Int)] ∧ True) fun n => .all (fun (x : Bool) => (bif decide ((↑s.length : Int) < 1) then true else decide ((40 : Int) < s.length)) = false → x = isL n) fun n => .ite (bif bif decide ((↑s.length : Int) < 1) then true else decide ((40 : Int) < s.length) then true else !n) (.leaf (.ret [.bool false] [])) (.leaf (.loop (Prod.fst (lps K38 0)) (Prod.snd (lps K38 0)) [(0, .str s), (20, .int .i64 s.length), (21, .int .i64 0), (31, .undef), (32, .undef), (33, .undef), (34, .undef), (35, .undef), (36, .undef), (39, .undef), (40, .undef), (43, .undef), (44, .undef)] [])))) (by kernel_rfl) ?_
 simp only [Tree.holds, ze, inR, lo, hi]
 have hd : decide ((s.length : Int) < 1) = !decide (0 < s.length) := by
  by_cases h : 0 < s.length
  ·rw [decide_eq_true h, decide_eq_false (by omega)]; rfl
  ·rw [decide_eq_false h, decide_eq_true (by omega)]; rfl
 have hd2 : decide (40 < (s.length : Int)) = !decide (s.length ≤ 40) := by
  by_cases h : s.length ≤ 40
  ·rw [decide_eq_true h, decide_eq_false (by omega)]; rfl
  ·rw [decide_eq_false h, decide_eq_true (by omega)]; rfl
 rw [hd, hd2]
 have hnb : qt s = (decide (0 < s.length) && decide (s.length ≤ 40) && isL (s.getD 0 0) && s.all isN) := rfl
 cases h1 : decide (0 < s.length) with
 | false =>
  rw [hnb, h1] at hq
  refine ⟨fun h => (by cases h), fun _ => ⟨0, fun h => (by cases h), ⟨false, fun h => (by cases h)⟩, ?_⟩⟩
  intro b _
  exact ⟨fun _ => RetR.scal hq rfl (by simp [resV]), fun h => (by cases h)⟩
 | true =>
  have h1' := of_decide_eq_true h1
  cases h2 : decide (s.length ≤ 40) with
  | false =>
   rw [hnb, h1, h2] at hq
   refine ⟨fun h => (by cases h), fun _ => ⟨0, fun h => (by cases h), ⟨false, fun h => (by cases h)⟩, ?_⟩⟩
   intro b _
   exact ⟨fun _ => RetR.scal hq rfl (by simp [resV]), fun h => (by cases h)⟩
  | true =>
   refine ⟨fun _ => by omega, fun _ => ⟨s.getD 0 0, fun _ => ⟨by simp, trivial⟩, ⟨_, fun _ => rfl⟩, ?_⟩⟩
   intro b hb
   have hb := hb rfl
   subst hb
   cases h3 : isL (s.getD 0 0) with
   | false =>
    rw [hnb, h1, h2, h3] at hq
    exact ⟨fun _ => RetR.scal hq rfl (by simp [resV]), fun h => (by cases h)⟩
   | true =>
    rw [hnb, h1, h2, h3] at hq
    refine ⟨fun h => (by cases h), fun _ => ?_⟩
    exact V5 s hs hq
def SNr (s : List UInt8) (i : Nat) : KV := [(0, .str s), (3, .int .i64 (i : Int)), (27, .undef), (28, .undef), (31, .undef), (32, .undef), (33, .undef), (34, .undef), (35, .undef), (36, .undef), (41, .undef), (42, .undef), (45, .undef), (46, .undef), (49, .undef), (50, .undef), (55, .undef), (56, .undef), (57, .undef), (58, .undef), (59, .undef), (60, .undef)]
theorem JF {O : Nat → Prop} {w0 : World} {Q : AV × Heap → Prop} {Hs : Nat → KV → Heap → Prop} (s : List UInt8) (hs : s.length < 2 ^ 62) (h0 : 0 < s.length) (hq : Q (.bool (isL (s.getD 0 0) && s.all isN), [])) :
  zc Try.prog Try.f76 O 0 w0 [] Hs (RetR Zx 0 Q) (.code (.loop (lps K76 0).1) :: (lps K76 0).2) (mk Try.f76.ntmps (SNr s 0) []) := by
 refine zc.loop (ι := {i : Nat // i ≤ s.length ∧ (∀ j, j < i → isN (s.getD j 0) = true) ∧ (0 < i → isL (s.getD 0 0) = true)}) (fun i => SNr s i.1) (fun _ => []) (fun i => s.length - i.1) ⟨0, Nat.zero_le _, fun j hj => by omega, fun h => by omega⟩ 0 ?_ ?_ (by kernel_rfl)
 ·exact ⟨by simp [SNr], by simp, by kernel_rfl, Nat.zero_le _⟩
 ·rintro ⟨i, hil, hib, hi0⟩
  refine zc.run hmix z2 [0, 3, 27, 28, 31, 32, 33, 34, 35, 36, 41, 42, 45, 46, 49, 50, 55, 56, 57, 58, 59, 60] 400 (T := .ite (decide ((↑i : Int) < s.length)) (.side ((0 : Int) ≤ i ∧ (↑i : Int) < s.length) (.ite (bif !bif bif decide ((97 : Int) ≤ (↑(UInt8.toNat (List.getD s (Int.toNat (↑i : Int)) (0 : UInt8))) : Int)) then decide ((↑(UInt8.toNat (List.getD s (Int.toNat (↑i : Int)) (0 : UInt8))) : Int) ≤ 122) else false then true else bif decide ((65 : Int) ≤ (↑(UInt8.toNat (List.getD s (Int.toNat (↑i : Int)) (0 : UInt8))) : Int)) then decide ((↑(UInt8.toNat (List.getD s (Int.toNat (↑i : Int)) (0 : UInt8))) : Int) ≤ 90) else false then bif decide ((↑i : Int) = 0) then true else !bif bif bif decide ((48 : Int) ≤ (↑(UInt8.toNat (List.getD s (Int.toNat (↑i : Int)) (0 : UInt8))) : Int)) then decide ((↑(UInt8.toNat (List.getD s (Int.toNat (↑i : Int)) (0 : UInt8))) : Int) ≤ 57) else false then true else decide ((↑(UInt8.toNat (List.getD s (Int.toNat (↑i : Int)) (0 : UInt8))) : Int) = 95) then true else decide ((↑(UInt8.toNat (List.getD s (Int.toNat (↑i : Int)) (0 : UInt8))) : Int) = 45) else false) (.leaf (.ret [.bool false] [])) (.side (inR .i64 ((↑i : Int) + (1 : Int))) (.leaf (.back 0 [(0, .str s), (3, .int .i64 ((↑i : Int) + (1 : Int))), (27, .undef), (28, .undef), (31, .undef), (32, .undef), (33, .undef), (34, .undef), (35, .undef), (36, .undef), (41, .undef), (42, .undef), (45, .undef), (46, .undef), (49, .undef), (50, .undef), (55, .undef), (56, .undef), (57, .undef), (58, .undef), (59, .undef), (60, .undef)] []))))) (.leaf (.ret [.bool true] []))) (by kernel_rfl) ?_
  simp only [Tree.holds, ze, inR, lo, hi, Int.toNat_natCast]
  refine ⟨fun hlt => ?_, fun hge => ?_⟩
  ·have hlt : i < s.length := by have := of_decide_eq_true hlt; omega
   refine ⟨by omega, fun _ => ?_⟩
   rw [VO]
   have hz : decide ((i : Int) = 0) = decide (i = 0) := decide_eq_decide.2 (by omega)
   rw [hz]
   refine ⟨fun h => ?_, fun h => ⟨by omega, fun _ => ?_⟩⟩
   ·have hf : (isL (s.getD 0 0) && s.all isN) = false := by
     have h : (isL (s.getD i 0) || (!decide (i = 0) && isN (s.getD i 0))) = false := by simpa only [Bool.not_eq_true'] using h
     rcases Nat.eq_zero_or_pos i with hi | hi
     ·subst hi
      have : isL (s.getD 0 0) = false := by
       cases h3 : isL (s.getD 0 0) with
       | false => rfl
       | true => rw [h3] at h; cases h
      rw [this]; rfl
     ·rw [decide_eq_false (by omega)] at h
      have : isN (s.getD i 0) = false := by
       cases h3 : isN (s.getD i 0) with
       | false => rfl
       | true => rw [h3] at h; revert h; cases isL (s.getD i 0) <;> intro h <;> cases h
      rw [xe hlt this]; cases isL (s.getD 0 0) <;> rfl
    rw [hf] at hq
    exact RetR.scal hq rfl (by simp [resV])
   ·rw [if_pos trivial]
    have h : (isL (s.getD i 0) || (!decide (i = 0) && isN (s.getD i 0))) = true := by simpa only [Bool.not_eq_false'] using h
    have hN : isN (s.getD i 0) = true := by
     cases h3 : isL (s.getD i 0) with
     | true => exact Yn h3
     | false =>
      rw [h3] at h
      revert h; cases decide (i = 0) <;> cases isN (s.getD i 0) <;> simp
    refine ⟨⟨i + 1, hlt, fun j hj => ?_, fun _ => ?_⟩, by show s.length - (i + 1) < s.length - i; omega, by simp [SNr], by simp, by kernel_rfl, Nat.zero_le _⟩
    ·rcases Nat.lt_or_ge j i with h1 | h1
     ·exact hib j h1
     ·have : j = i := by omega
      rw [this]; exact hN
    ·rcases Nat.eq_zero_or_pos i with h1 | h1
     ·subst h1
      cases h3 : isL (s.getD 0 0) with
      | true => rfl
      | false => rw [h3] at h; cases h
     ·exact hi0 h1
  ·have hge : i = s.length := by have := of_decide_eq_false hge; omega
   subst hge
   rw [QT hib, hi0 h0] at hq
   exact RetR.scal hq rfl (by simp [resV])
theorem VV : zf Try.prog 76 Zx := by
 refine zn (fn := Try.f76) (c := Try.f76.body.getD .skip) rfl rfl rfl fun s hs O w0 Q hq => ?_
 replace hq := hq _ rfl
 refine zc.run hmix z2 [0, 3, 27, 28, 31, 32, 33, 34, 35, 36, 41, 42, 45, 46, 49, 50, 55, 56, 57, 58, 59, 60] 400 (T := .ite (bif decide ((↑s.length : Int) = 0) then true else decide ((40 : Int) < s.length)) (.leaf (.ret [.bool false] [])) (.leaf (.loop (Prod.fst (lps K76 0)) (Prod.snd (lps K76 0)) [(0, .str s), (3, .int .i64 0), (27, .undef), (28, .undef), (31, .undef), (32, .undef), (33, .undef), (34, .undef), (35, .undef), (36, .undef), (41, .undef), (42, .undef), (45, .undef), (46, .undef), (49, .undef), (50, .undef), (55, .undef), (56, .undef), (57, .undef), (58, .undef), (59, .undef), (60, .undef)] []))) (by kernel_rfl) ?_
 simp only [Tree.holds, ze, inR, lo, hi]
 have hd : decide ((s.length : Int) = 0) = !decide (0 < s.length) := by
  by_cases h : 0 < s.length
  ·rw [decide_eq_true h, decide_eq_false (by omega)]; rfl
  ·rw [decide_eq_false h, decide_eq_true (by omega)]; rfl
 have hd2 : decide (40 < (s.length : Int)) = !decide (s.length ≤ 40) := by
  by_cases h : s.length ≤ 40
  ·rw [decide_eq_true h, decide_eq_false (by omega)]; rfl
  ·rw [decide_eq_false h, decide_eq_true (by omega)]; rfl
 rw [hd, hd2]
 have hnb : qt s = (decide (0 < s.length) && decide (s.length ≤ 40) && isL (s.getD 0 0) && s.all isN) := rfl
 cases h1 : decide (0 < s.length) with
 | false =>
  rw [hnb, h1] at hq
  exact ⟨fun _ => RetR.scal hq rfl (by simp [resV]), fun h => (by cases h)⟩
 | true =>
  cases h2 : decide (s.length ≤ 40) with
  | false =>
   rw [hnb, h1, h2] at hq
   exact ⟨fun _ => RetR.scal hq rfl (by simp [resV]), fun h => (by cases h)⟩
  | true =>
   rw [hnb, h1, h2] at hq
   refine ⟨fun h => (by cases h), fun _ => ?_⟩
   exact JF s hs (of_decide_eq_true h1) hq
end Go.Proofs.Try
end

/- Nil slices of a result, handed back as own empty ones. -/
section
namespace Go.Sx
variable [Stat]
section
variable {own own' O : Nat → Prop} {w w' : World} {σ σ' : List SE} {P : Program} {fn : Func}
def upA0 (d k : Nat) : AV → AV → Prop
 | .nils, .osl i _ off n => (d ≤ i ∧ i < d + k) ∧ off = 0 ∧ n = 0
 | a, b => a = b
def upL0 (d k : Nat) : List AV → List AV → Prop
 | [], [] => True
 | a :: l, b :: m => upA0 d k a b ∧ upL0 d k l m
 | _, _ => False
def upA1 (d k : Nat) : AV → AV → Prop
 | .agg l, .agg m => upL0 d k l m
 | a, b => upA0 d k a b
def upL1 (d k : Nat) : List AV → List AV → Prop
 | [], [] => True
 | a :: l, b :: m => upA1 d k a b ∧ upL1 d k l m
 | _, _ => False
def upA2 (d k : Nat) : AV → AV → Prop
 | .tup l, .tup m => upL1 d k l m
 | a, b => upA1 d k a b
def je (k : Nat) : List SE := List.replicate k ⟨none, 0⟩
theorem xX.mono {g : Nat} {vals : Array Value} {R R' : Value → World → Prop} (hR : ∀ v w', R v w' → R' v w') (h : xX P g vals w R) : xX P g vals w R' := by
 rcases h with ⟨h1, h2⟩ | ⟨v, w', h1, h2⟩
 ·exact .inl ⟨h1, h2.mono fun e w' ⟨v, he, hv⟩ => ⟨v, he, hR v w' hv⟩⟩
 ·exact .inr ⟨v, w', h1, hR v w' h2⟩
theorem qo {k i : Nat} {e : SE} (h : (σ ++ je k)[i]? = some e) : (i < σ.length ∧ σ[i]? = some e) ∨ (σ.length ≤ i ∧ e = ⟨none, 0⟩) := by
 rw [List.getElem?_append] at h
 split at h
 ·rename_i hi; exact .inl ⟨hi, h⟩
 ·rename_i hi
  right
  refine ⟨by omega, ?_⟩
  simp only [je, List.getElem?_replicate] at h
  split at h
  ·cases h; rfl
  ·cases h
theorem uc {k b : Nat} (h : Mine (σ ++ je k) b) : Mine σ b := by
 obtain ⟨e, he, ad, h1, h2⟩ := h
 rcases List.mem_append.1 he with he | he
 ·exact ⟨e, he, ad, h1, h2⟩
 ·have := List.eq_of_mem_replicate he
  subst this
  cases h1
theorem xI {k b : Nat} (h : Own O (σ ++ je k) b) : Own O σ b := by
 rcases h with h | h
 ·exact .inl h
 ·exact .inr (uc h)
theorem wm (K : List Nat) (w : World) (σ : List SE) (k : Nat) : Hold K w σ w (σ ++ je k) := fun i e he _ => by
 have hi := (List.getElem?_eq_some_iff.1 he).1
 exact ⟨by rw [List.getElem?_append_left hi]; exact he, fun ad _ cs el h => ⟨cs, el, h, rfl⟩⟩
theorem Zz {k : Nat} (hx : Ext own w own' w) {a b : AV} {v : Value} (hu : upA0 σ.length k a b) (ha : Rep own w a σ v) : Rep own' w b (σ ++ je k) v := by
 unfold upA0 at hu
 split at hu
 ·obtain ⟨⟨h1, h2⟩, rfl, rfl⟩ := hu
  rename_i i sz _ _
  simp only [Rep] at ha ⊢
  refine ⟨⟨none, 0⟩, ?_, by simp, none, 0, ha, Nat.le_refl _, .inl rfl⟩
  rw [List.getElem?_append_right h1, je, List.getElem?_replicate, if_pos (by omega)]
 ·subst hu
  exact zH (K := []) hx (wm [] w σ k) _ _ (qA _) ha
theorem yF {k : Nat} (hx : Ext own w own' w) : ∀ {l m : List AV} {vs : List Value}, upL0 σ.length k l m → RepL own w l σ vs → RepL own' w m (σ ++ je k) vs
 | [], [], vs, _, h => by simpa [RepL] using h
 | a :: l, b :: m, vs, hl, h => by
  simp only [RepL] at h ⊢
  obtain ⟨v, r, hv, h1, h2⟩ := h
  exact ⟨v, r, hv, Zz hx hl.1 h1, yF hx hl.2 h2⟩
 | [], _ :: _, _, hl, _ => hl.elim
 | _ :: _, [], _, hl, _ => hl.elim
theorem uO {k : Nat} (hx : Ext own w own' w) {a b : AV} {v : Value} (hu : upA1 σ.length k a b) (ha : Rep own w a σ v) : Rep own' w b (σ ++ je k) v := by
 unfold upA1 at hu
 split at hu
 ·simp only [Rep] at ha ⊢
  obtain ⟨vs, hv, hr⟩ := ha
  exact ⟨vs, hv, yF hx hu hr⟩
 ·exact Zz hx hu ha
theorem ku {k : Nat} (hx : Ext own w own' w) : ∀ {l m : List AV} {vs : List Value}, upL1 σ.length k l m → RepL own w l σ vs → RepL own' w m (σ ++ je k) vs
 | [], [], vs, _, h => by simpa [RepL] using h
 | a :: l, b :: m, vs, hl, h => by
  simp only [RepL] at h ⊢
  obtain ⟨v, r, hv, h1, h2⟩ := h
  exact ⟨v, r, hv, uO hx hl.1 h1, ku hx hl.2 h2⟩
 | [], _ :: _, _, hl, _ => hl.elim
 | _ :: _, [], _, hl, _ => hl.elim
theorem Zf {k : Nat} (hx : Ext own w own' w) {a b : AV} {v : Value} (hu : upA2 σ.length k a b) (ha : Rep own w a σ v) : Rep own' w b (σ ++ je k) v := by
 unfold upA2 at hu
 split at hu
 ·simp only [Rep] at ha ⊢
  obtain ⟨vs, hv, hr⟩ := ha
  exact ⟨vs, hv, ku hx hu hr⟩
 ·exact uO hx hu ha
def vg (szs : List (Nat × (Nat → Nat → AV))) : Heap := szs.map fun s => .arr 0 s.1 s.2
theorem Yr (hx : Ext own w own' w) {hs : Heap} (hh : HRep own w σ hs) (szs : List (Nat × (Nat → Nat → AV))) : HRep own' w (σ ++ je szs.length) (hs ++ vg szs) := by
 have hl := hh.len
 refine ⟨by simp [je, vg, hl], fun i j e f a b he hf ha hb hij => ?_, fun i e a he ha => ?_, fun i e b he hb => ?_⟩
 ·rcases qo he with ⟨_, he⟩ | ⟨_, rfl⟩
  ·rcases qo hf with ⟨_, hf⟩ | ⟨_, rfl⟩
   ·exact hh.inj i j e f a b he hf ha hb hij
   ·cases hb
  ·cases ha
 ·rcases qo he with ⟨_, he⟩ | ⟨_, rfl⟩
  ·exact hh.lt i e a he ha
  ·cases ha
 ·rcases qo he with ⟨hi, he⟩ | ⟨hi, rfl⟩
  ·rw [List.getElem?_append_left (by omega)] at hb
   have := qm (K := []) hx (wm [] w σ szs.length) (hh.blk i e b he hb) (fun _ _ => rfl)
   rwa [q5] at this
  ·rw [List.getElem?_append_right (by omega)] at hb
   simp only [vg, List.getElem?_map] at hb
   cases hz : szs[i - hs.length]? with
   | none => simp [hz] at hb
   | some s =>
    simp only [hz, Option.map_some, Option.some.injEq] at hb
    subst hb
    exact ⟨rfl, .inl rfl⟩
def upQ (Q : AV × Heap → Prop) (p : AV × Heap) : Prop := Q p ∨ ∃ (r : AV) (szs : List (Nat × (Nat → Nat → AV))), upA2 p.2.length szs.length p.1 r ∧ Q (r, p.2 ++ vg szs)
theorem q8.up {g : Nat} {c : Ctr} {args : List AV} {hc : Heap} {Q : AV × Heap → Prop} (h : q8 P g c args hc (upQ Q)) : q8 P g c args hc Q := by
 intro O w σ vals hg hh hr
 refine xX.mono ?_ (h O w σ vals hg hh hr)
 rintro v w' ⟨r, hs, σ', hq, h1, h2, h3, h4, h5, h6⟩
 rcases hq with hq | ⟨r', szs, hu, hq⟩
 ·exact ⟨r, hs, σ', hq, h1, h2, h3, h4, h5, h6⟩
 ·have hx : Ext (fun b => Own O σ' b ∨ (c.fresh = true ∧ b < w.heap.size)) w' (fun b => Own O (σ' ++ je szs.length) b ∨ (c.fresh = true ∧ b < w.heap.size)) w' :=
   ⟨rfl, rfl, rfl, Nat.le_refl _, fun _ _ _ => rfl, fun b hb => .inl (hb.imp xI id)⟩
  have hl : hs.length = σ'.length := h2.len.symm
  refine ⟨r', hs ++ vg szs, σ' ++ je szs.length, hq, Zf hx (by rw [← hl]; exact hu) h1, Yr hx h2 szs, ⟨h3.old, fun i e ad he had => ?_, h3.stat.own fun b hb => xI hb⟩, by simp; omega, h5.QY (wm [] w' σ' _), ?_⟩
  ·rcases qo he with ⟨_, he⟩ | ⟨_, rfl⟩
   ·exact h3.dis i e ad he had
   ·cases had
  ·exact ⟨h6.os, h6.tape, h6.output, h6.size, h6.keep, fun b hb => h6.grow b (uc hb)⟩
theorem Kk {X R : Type} {fresh : Bool} {inp : X → List AV} {pre : X → Prop} {post : X → R → Prop} {out : X → R → AV × Heap} {g : Nat} {c : Code} (hf : P.funcs[g]? = some fn) (hb : fn.body = some c) (hn : (fn.name == "runtime.NumGoroutine") = false)
  (H : ∀ x, pre x → ∀ (O : Nat → Prop) (w0 : World) (Q : AV × Heap → Prop), (∀ r, post x r → Q (out x r)) →
   zc P fn O 0 w0 [] (fun _ _ _ => False) (RetR (ctrP fresh inp pre post out) 0 (upQ Q)) [.code c] (entry fn (inp x))) : zf P g (ctrP fresh inp pre post out) := by
 intro args hc Q hq _
 simp only [ctrP] at hq
 split at hq
 ·obtain ⟨x, ⟨h1, h4⟩, h5, h6⟩ := hq
  refine q8.le h1 (q8.up (fn_k hf hb hn (fun h => rfl) fun O w0 σ0 hl => ?_))
  have h0 : σ0 = [] := List.length_eq_zero_iff.1 (by simpa using hl)
  subst h0
  exact H x h4 O w0 Q h6
 ·exact hq.elim
def upKV (d k : Nat) : KV → KV → Prop
 | [], [] => True
 | (i, a) :: l, (j, b) :: m => i = j ∧ upA2 d k a b ∧ upKV d k l m
 | _, _ => False
def upB (d k : Nat) : Blk → Blk → Prop
 | .box l, .box m => upL1 d k l m
 | a, b => a = b
def upH (d k : Nat) : Heap → Heap → Prop
 | [], [] => True
 | b :: l, c :: m => upB d k b c ∧ upH d k l m
 | _, _ => False
theorem uU {d k : Nat} : ∀ {l m : KV} (t : Nat), upKV d k l m → upA2 d k (look l t) (look m t)
 | [], [], t, _ => by simp [look, upA2, upA1, upA0]
 | (i, a) :: l, (j, b) :: m, t, h => by
  obtain ⟨rfl, h1, h2⟩ := h
  simp only [look]
  split
  ·exact h1
  ·exact uU t h2
 | [], _ :: _, _, h => h.elim
 | _ :: _, [], _, h => h.elim
theorem Wm {d k : Nat} : ∀ {l m : Heap}, upH d k l m → l.length = m.length
 | [], [], _ => rfl
 | _ :: l, _ :: m, h => by simp [Wm h.2]
 | [], _ :: _, h => h.elim
 | _ :: _, [], h => h.elim
theorem WH {d k : Nat} : ∀ {l m : Heap} {i : Nat} {b' : Blk}, upH d k l m → m[i]? = some b' → ∃ b, l[i]? = some b ∧ upB d k b b'
 | b :: l, c :: m, 0, b', h, h1 => by simp at h1; subst h1; exact ⟨b, rfl, h.1⟩
 | b :: l, c :: m, i + 1, b', h, h1 => by simpa using WH h.2 (by simpa using h1)
 | [], [], _, _, _, h1 => by simp at h1
 | [], _ :: _, _, _, h, _ => h.elim
 | _ :: _, [], _, _, h, _ => h.elim
theorem Vu {k : Nat} (hx : Ext own w own' w) {e : SE} {b b' : Blk} (hu : upB σ.length k b b') (hb : BRep own w σ e b) : BRep own' w (σ ++ je k) e b' := by
 unfold upB at hu
 split at hu
 ·simp only [BRep] at hb ⊢
  obtain ⟨ad, vs, el, h1, h2, h3, h4⟩ := hb
  exact ⟨ad, vs, el, h1, h2, h3, ku hx hu h4⟩
 ·subst hu
  have := qm (K := []) hx (wm [] w σ k) hb (fun _ _ => rfl)
  rwa [q5] at this
variable {pin : Nat} {w0 : World} {σ0 : List SE} {a : Act}
theorem up_mod {kv kv2 : KV} {h h2 : Heap} {n : Nat} (hm : Mod O pin w0 σ0 w σ (mk n kv h) a) {szs : List (Nat × (Nat → Nat → AV))} (hkv : upKV h.length szs.length kv kv2) (hh2 : upH h.length szs.length h h2) (hno : (pk n kv).all z1 = true) (hno2 : (pk n kv2).all z1 = true) : Mod O pin w0 σ0 w (σ ++ je szs.length) (mk n kv2 (h2 ++ vg szs)) a := by
 have hx : Ext (Own O σ) w (Own O (σ ++ je szs.length)) w := ⟨rfl, rfl, rfl, Nat.le_refl _, fun _ _ _ => rfl, fun b hb => .inl (xI hb)⟩
 have hl : h.length = σ.length := hm.hp.len.symm
 rw [hl] at hkv hh2
 have hl2 := Wm hh2
 refine ⟨⟨hm.good.old, fun i e ad he had => ?_, hm.good.stat.ext hx⟩, ?_, by simp [hm.size, mk, pk], fun u => ?_, hm.df.ext hx, hm.since.trans ⟨hx, fun _ _ _ => rfl, jG.of (wm [] w σ _) (by simp)⟩, hm.lim⟩
 ·rcases qo he with ⟨_, he⟩ | ⟨_, rfl⟩
  ·exact hm.good.dis i e ad he had
  ·cases had
 ·have hh := hm.hp
  refine ⟨by simp [mk, je, vg, ← hl2, hl], fun i j e f x y he hf ha hb hij => ?_, fun i e x he ha => ?_, fun i e b he hb => ?_⟩
  ·rcases qo he with ⟨_, he⟩ | ⟨_, rfl⟩
   ·rcases qo hf with ⟨_, hf⟩ | ⟨_, rfl⟩
    ·exact hh.inj i j e f x y he hf ha hb hij
    ·cases hb
   ·cases ha
  ·rcases qo he with ⟨_, he⟩ | ⟨_, rfl⟩
   ·exact hh.lt i e x he ha
   ·cases ha
  ·simp only [mk] at hb
   rcases qo he with ⟨hi, he⟩ | ⟨hi, rfl⟩
   ·rw [List.getElem?_append_left (by omega)] at hb
    obtain ⟨b0, h1, h3⟩ := WH hh2 hb
    exact Vu hx h3 (hh.blk i e b0 he h1)
   ·rw [List.getElem?_append_right (by omega)] at hb
    simp only [vg, List.getElem?_map] at hb
    cases hz : szs[i - h2.length]? with
    | none => simp [hz] at hb
    | some s =>
     simp only [hz, Option.map_some, Option.some.injEq] at hb
     subst hb
     exact ⟨rfl, .inl rfl⟩
 ·have hu := hm.tm u
  have key : ∀ (kv : KV) (h : Heap), (pk n kv).all z1 = true → z1 ((mk n kv h).tmps.getD u .undef) = true := by
   intro kv h hno
   by_cases hlt : u < (mk n kv h).tmps.length
   ·simp only [List.getD, List.getElem?_eq_getElem hlt, Option.getD_some]
    exact List.all_eq_true.1 hno _ (List.getElem_mem hlt)
   ·simp only [List.getD]
    rw [List.getElem?_eq_none (by omega)]; rfl
  have n1 := key kv h hno
  have n2 := key kv2 (h2 ++ vg szs) hno2
  have hr : Rep (Own O σ) w ((mk n kv h).tmps.getD u .undef) σ (a.tmps.getD u undef) := by
   generalize (mk n kv h).tmps.getD u .undef = x at hu n1
   cases x with
   | opt _ _ _ => simp [z1] at n1
   | _ => simpa only [TRep] using hu
  have hup : upA2 σ.length szs.length ((mk n kv h).tmps.getD u .undef) ((mk n kv2 (h2 ++ vg szs)).tmps.getD u .undef) := by
   by_cases hlt : u < n
   ·simp only [mk]
    rw [wu hlt, wu hlt]
    exact uU u hkv
   ·simp [mk, pk, List.getD, hlt, upA2, upA1, upA0]
  have := Zf hx hup hr
  generalize (mk n kv2 (h2 ++ vg szs)).tmps.getD u .undef = y at this n2
  cases y with
  | opt _ _ _ => simp [z1] at n2
  | _ => simpa only [TRep] using this
theorem zc.up {M : Option Nat} {Hs : Nat → KV → Heap → Prop} {R : List AV → Heap → Prop} {k : List Item} {kv : KV} {h : Heap} (szs : List (Nat × (Nat → Nat → AV))) (kv2 : KV) (h2 : Heap) (hkv : upKV h.length szs.length kv kv2) (hh2 : upH h.length szs.length h h2) (hno : (pk fn.ntmps kv).all z1 = true) (hno2 : (pk fn.ntmps kv2).all z1 = true)
  (H : qa M P fn O pin w0 σ0 Hs R k (mk fn.ntmps kv2 (h2 ++ vg szs))) : qa M P fn O pin w0 σ0 Hs R k (mk fn.ntmps kv h) :=
 fun w σ a hm => H w _ a (up_mod hm hkv hh2 hno hno2)
theorem RetR.outs {ctr : Ctr} {Q : AV × Heap → Prop} {rs : List AV} {h : Heap} {r : AV} {hs : Heap} (L : List Nat) (hnd : jw L = true) (hlt : (L.all fun i => decide (i < h.length)) = true) (hq : Q (r, hs)) (hn : ctr.fresh = true → new2 h L (resV rs) ∧ ∀ i ∈ L, newB (h.getD i .dead))
  (he : eqA2 (exp2 h L (resV rs)) r) (hb : eqH (expH h L) hs) (hl : hs.length = L.length) : RetR ctr 0 Q rs h :=
 ⟨L, hnd, fun i hi => by have := List.all_eq_true.1 hlt i hi; simpa using this, by simp, hn, r, hs, zX he, hb, hl, hq⟩
theorem RetR.keep {ctr : Ctr} {m : Nat} {Q : AV × Heap → Prop} {rs : List AV} {h : Heap} {r : AV} {hs : Heap} (L : List Nat) (hnd : jw L = true) (hlt : (L.all fun i => decide (i < h.length)) = true) (hj : ∀ j, j < m → L[j]? = some j) (hf : ctr.fresh = false) (hq : Q (r, hs))
  (he : eqA2 (exp2 h L (resV rs)) r) (hb : eqH (expH h L) hs) (hl : hs.length = L.length) : RetR ctr m Q rs h :=
 ⟨L, hnd, fun i hi => by have := List.all_eq_true.1 hlt i hi; simpa using this, hj, (fun hh => absurd hh (by rw [hf]; decide)), r, hs, zX he, hb, hl, hq⟩
end
end Go.Sx
end

/- Arguments that say no less than a contract asks. -/
section
namespace Go.Sx
variable [Stat]
section
variable {P : Program}
theorem Zu (a : AV) : eqA0 a a := by
 cases a <;> simp [eqA0]
 exact fun _ _ _ _ => rfl
theorem xv : ∀ l : List AV, eqL0 l l
 | [] => trivial
 | a :: l => ⟨Zu a, xv l⟩
theorem K1 (a : AV) : eqA a a := by
 cases a with
 | agg l => exact xv l
 | tup l => exact xv l
 | _ => unfold eqA; exact Zu _
theorem uf : ∀ l : List AV, eqL l l
 | [] => trivial
 | a :: l => by
  unfold eqL
  split
  ·rename_i h1 h2; cases h1
  ·rename_i h1 h2; cases h1; cases h2; exact uf l
  ·rename_i h1 h2; cases h1; cases h2; exact ⟨K1 _, uf l⟩
  ·rename_i hx; exact (hx _ _ _ _ rfl rfl).elim
end
end Go.Sx
end

/- A contract that is the callee's own run: for small functions without loops. -/
section
namespace Go.Sx
variable [Stat]
section
variable {P : Program} {Γ : Nat → Option Ctr} {fn : Func}
def inlC (P : Program) (Γ : Nat → Option Ctr) (n : Nat) (fn : Func) : Ctr where
 fresh := false
 spec args hc := match fn.body with
  | some c => (run P Γ hc.length n [.code c] (wX fn args hc)).bind fun lf => match lf with
   | .ret st => (resX P st fn.results.toList).bind fun rs => bif decide (hc.length ≤ st.heap.length) then .leaf (exp2 st.heap (List.range st.heap.length) (resV rs), expH st.heap (List.range st.heap.length)) else .fail
   | _ => .fail
  | none => .fail
theorem nodup_range' : ∀ (n s : Nat), jw (List.range' s n) = true
 | 0, _ => rfl
 | n + 1, s => by
  rw [List.range'_succ]
  simp only [jw, Bool.and_eq_true]
  refine ⟨?_, nodup_range' n (s + 1)⟩
  simp [List.contains_eq_mem, List.mem_range'_1]
theorem Vj (b : Blk) : eqB b b := by
 cases b with
 | dead => trivial
 | box l => exact uf l
 | arr n sz g => exact ⟨rfl, rfl, fun _ _ _ _ => rfl⟩
 | arrI k n f => exact ⟨rfl, fun _ _ _ _ => rfl⟩
 | arrS n f => exact ⟨rfl, fun _ _ _ _ => rfl⟩
 | map ag sh has get pe => exact ⟨⟨rfl, .inr rfl⟩, rfl, fun _ => rfl, fun _ _ => rfl⟩
theorem Vd (h : Heap) : eqH h h := by
 induction h with
 | nil => trivial
 | cons b l ih => exact ⟨Vj b, ih⟩
theorem vu {g n : Nat} (hmix : P.follows .mixedOrders = true) (hΓ : ∀ g c, Γ g = some c → zf P g c) (hf : P.funcs[g]? = some fn) (hn : (fn.name == "runtime.NumGoroutine") = false) : zf P g (inlC P Γ n fn) := by
 intro args hc Q hq hfr
 simp only [inlC] at hq
 cases hb : fn.body with
 | none => rw [hb] at hq; exact hq.elim
 | some c =>
  rw [hb] at hq
  simp only [Tree.zk] at hq
  refine Y2 hf hb hn hfr fun O w0 σ0 hl => Safe.run hmix hΓ n (Tree.zB (fun lf h => ?_) hq)
  cases lf with
  | ret st =>
   simp only [Tree.zk] at h
   refine Tree.zB (fun rs h => ?_) h
   cases hd : decide (hc.length ≤ st.heap.length) with
   | false => rw [hd] at h; exact h.elim
   | true =>
    rw [hd] at h
    have h : Q (exp2 st.heap (List.range st.heap.length) (resV rs), expH st.heap (List.range st.heap.length)) := h
    have hd := of_decide_eq_true hd
    exact ⟨List.range st.heap.length, by rw [List.range_eq_range']; exact nodup_range' _ _, fun i hi => List.mem_range.1 hi, fun j hj => by rw [List.getElem?_range (by omega)], fun h => (by cases h), _, _, LeA.refl _, Vd _, by simp [expH], h⟩
  | _ => exact h.elim
end
end Go.Sx
end

/- Orders of what is known. -/
section
namespace Go.Nov
open Go.Sx
structure Fx where
 name : List UInt8
 date : Int
 value : List UInt8
structure Ch where
 zb : List UInt8
 name : List UInt8
 date : Int
 first : Bool
abbrev Fx.nil : Fx := ⟨[], 0, []⟩
abbrev Ch.nil : Ch := ⟨[], [], 0, false⟩
def Fx.cell (f : Fx) : Nat → AV
 | 0 => .str f.name
 | 1 => .int .i64 f.date
 | 2 => .str f.value
 | _ => .undef
def Ch.cell (c : Ch) : Nat → AV
 | 0 => .str c.zb
 | 1 => .str c.name
 | 2 => .int .i64 c.date
 | 3 => .bool c.first
 | _ => .undef
def fxG (l : List Fx) : Nat → Nat → AV := fun j => (l.getD j Fx.nil).cell
def chG (l : List Ch) : Nat → Nat → AV := fun j => (l.getD j Ch.nil).cell
def Fx.av (f : Fx) : AV := .agg [.str f.name, .int .i64 f.date, .str f.value]
def Ch.av (c : Ch) : AV := .agg [.str c.zb, .str c.name, .int .i64 c.date, .bool c.first]
def fxS (l : List Fx) : AV := .sl l.length 3 (fxG l)
def chS (l : List Ch) : AV := .sl l.length 4 (chG l)
def envA (f : List Fx) (c : List Ch) : AV := .agg [fxS f, chS c]
end Go.Nov
namespace Go.Nov
end Go.Nov
namespace Go.Nov
end Go.Nov
namespace Go.Nov
end Go.Nov
namespace Go.Nov
end Go.Nov
end

/- A place in an ordered list. -/
section
namespace Go.Nov
open Go.Sx
structure OrdK {α : Type} (c : α → α → Int) : Prop where
 lt : ∀ a b d, c a b < 0 → c b d < 0 → c a d < 0
 eq : ∀ a b d, c a b < 0 → c b d = 0 → c a d < 0
section
variable {α : Type} {c : α → α → Int} {z x : α}
end
end Go.Nov
end

/- Lists of what is known, as slices: pushed, set, put in between. -/
section
namespace Go.Nov
open Go.Sx
theorem Qm (n sz : Nat) (g g' : Nat → Nat → AV) : eqG (0 + n) sz (appG 0 g g') g' := by
 intro j o _ _
 simp [appG]
theorem Zq (n sz : Nat) (g : Nat → Nat → AV) : eqG n sz (zg g 0) g := by
 intro j o _ _
 simp [zg]
end Go.Nov
end

/- Events of a log, plain. -/
section
namespace Go.Nov
open Go.Sx
structure Ev where
 kind : Int
 id : Int
 entry : Int
 target : Int
 date : Int
 zb : List UInt8
 name : List UInt8
 value : List UInt8
 first : Bool
deriving DecidableEq
abbrev Ev.nil : Ev := ⟨0, 0, 0, 0, 0, [], [], [], false⟩
def Ev.cell (e : Ev) : Nat → AV
 | 0 => .int .u8 e.kind
 | 1 => .int .i64 e.id
 | 2 => .int .i64 e.entry
 | 3 => .int .i64 e.target
 | 4 => .int .i64 e.date
 | 5 => .str e.zb
 | 6 => .str e.name
 | 7 => .str e.value
 | 8 => .bool e.first
 | _ => .undef
def evG (l : List Ev) : Nat → Nat → AV := fun j => (l.getD j Ev.nil).cell
def Ev.av (e : Ev) : AV := .agg [.int .u8 e.kind, .int .i64 e.id, .int .i64 e.entry, .int .i64 e.target, .int .i64 e.date, .str e.zb, .str e.name, .str e.value, .bool e.first]
def evS (l : List Ev) : AV := .sl l.length 9 (evG l)
theorem Wn (l : List Ev) (j o : Nat) (ho : o < 9) : zP (evG l j o) = true := by
 unfold evG
 rcases (show o = 0 ∨ o = 1 ∨ o = 2 ∨ o = 3 ∨ o = 4 ∨ o = 5 ∨ o = 6 ∨ o = 7 ∨ o = 8 by omega) with rfl | rfl | rfl | rfl | rfl | rfl | rfl | rfl | rfl <;> rfl
theorem jN {l : List Ev} {x : Ev} {g : Nat → Nat → AV} (hg : eqG l.length 9 g (evG l)) : eqG (l.length + 1) 9 (appG l.length g (zg (zd 9 [.int .u8 x.kind, .int .i64 x.id, .int .i64 x.entry, .int .i64 x.target, .int .i64 x.date, .str x.zb, .str x.name, .str x.value, .bool x.first]) 0)) (evG (l ++ [x])) := by
 intro j p hj hp
 simp only [appG, zg, zd]
 by_cases q : j < l.length
 ·rw [if_pos q, hg j p q hp]
  simp only [evG, List.getD, List.getElem?_append_left q]
 ·rw [if_neg q]
  obtain rfl : j = l.length := by omega
  have e : (l ++ [x]).getD l.length Ev.nil = x := by simp [List.getD]
  unfold evG
  rw [e]
  rcases (show p = 0 ∨ p = 1 ∨ p = 2 ∨ p = 3 ∨ p = 4 ∨ p = 5 ∨ p = 6 ∨ p = 7 ∨ p = 8 by omega) with rfl | rfl | rfl | rfl | rfl | rfl | rfl | rfl | rfl <;> simp [Ev.cell]
def inB (n a b : Int) : Bool := decide (a ≤ n) && decide (n ≤ b)
def zC (e : Ev) : Prop := e.zb.length < 2 ^ 40 ∧ e.name.length < 2 ^ 40 ∧ e.value.length < 2 ^ 40
def Ev.valid (e : Ev) : Bool :=
 inB e.id 1 1073741824 && inB e.entry 0 1125899906842624 &&
 (if e.kind = 1 then qt e.name && dayB e.date && decide (errR e.value = 0) && decide (e.target = 0) && decide (e.zb = []) && !e.first
  else if e.kind = 2 then qt e.zb && qt e.name && dayB e.date && decide (e.target = 0) && decide (e.value = [])
  else inB e.target 1 (e.id - 1) && decide (e.date = 0) && decide (e.zb = []) && decide (e.name = []) &&
   (if e.kind = 3 then decide (errR e.value = 0) && !e.first
   else if e.kind = 4 then decide (e.value = [])
   else decide (e.kind = 5) && decide (e.value = []) && !e.first))
def Ev.key (e : Ev) : List Sc := [.inl e.kind, .inr e.zb, .inr e.name, .inl e.date]
def Ev.qR (k : List Sc) (x : Ev) : Bool := decide (x.kind ≠ 0) && decide (x.key = k)
def zo (l : List Ev) : List Sc → Bool := fun k => l.any (Ev.qR k)
def zz (l : List Ev) : List Sc → AV := fun k => .int .i64 ((l.findIdx (Ev.qR k) : Nat) + 1 : Int)
structure SS where
 evs : List Ev
 lat : List Ev
def SS.fact (s : SS) (e : Ev) : Ev := s.lat.getD (e.target.toNat - 1) Ev.nil
def SS.errC (s : SS) (e : Ev) : Int :=
 if (s.lat.length : Int) < e.target ∨ (s.fact e).kind = 0 then 6
 else if e.kind = 5 then 0
 else if decide (e.kind = 3) ≠ decide ((s.fact e).kind = 1) then 32 else 0
def SS.fixed (s : SS) (e : Ev) : Ev := if e.kind = 5 then Ev.nil else { s.fact e with value := e.value, first := e.first }
def SS.cor (s : SS) (e : Ev) : SS := if s.errC e = 0 then ⟨s.evs, s.lat.set (e.target.toNat - 1) (s.fixed e)⟩ else s
def SS.errA (s : SS) (e : Ev) : Int :=
 if e.valid = false ∨ e.id ≠ s.evs.length + 1 then 2
 else if 0 < s.evs.length ∧ e.entry < (s.evs.getD (s.evs.length - 1) Ev.nil).entry then 21
 else if 1000 ≤ s.evs.length then 22
 else if 0 < e.target then s.errC e
 else if zo s.lat e.key then 24 else 0
def SS.add (s : SS) (e : Ev) : SS :=
 if s.errA e ≠ 0 then s
 else if 0 < e.target then ⟨s.evs ++ [e], (s.cor e).lat ++ [Ev.nil]⟩
 else ⟨s.evs ++ [e], s.lat ++ [e]⟩
structure SS.ok (s : SS) : Prop where
 len : s.lat.length = s.evs.length
 uniq : ∀ i j, i < s.lat.length → j < s.lat.length → (s.lat.getD i Ev.nil).kind ≠ 0 → (s.lat.getD j Ev.nil).kind ≠ 0 → (s.lat.getD i Ev.nil).key = (s.lat.getD j Ev.nil).key → i = j
 kinds : ∀ i, i < s.lat.length → (s.lat.getD i Ev.nil).kind = 0 ∨ (s.lat.getD i Ev.nil).kind = 1 ∨ (s.lat.getD i Ev.nil).kind = 2
end Go.Nov
end

/- Events: Check, and the reference's Valid. -/
section
set_option maxRecDepth 100000
open Go Go.Sx Go.Proofs Go.Nov
namespace Go.Proofs.Try
attribute [local simp] eqKV eqA eqA0 eqH eqB eqL eqL0
noncomputable def Je : Ctr := inlC Try.prog noG 100 Try.f73
theorem Q6 : zf Try.prog 73 Je := vu hmix z2 rfl rfl
noncomputable def GEv0 : Nat → Option Ctr := fun f => if f = 73 then some (Je) else none
theorem XM : ∀ g c, GEv0 g = some c → zf Try.prog g c := okIf Q6 (z3)
noncomputable def Yu : Ctr := inlC Try.prog GEv0 100 Try.f74
theorem XK : zf Try.prog 74 Yu := vu hmix XM rfl rfl
def yo : Ctr := ctrP true (fun e : Ev => [e.av]) zC (fun e r => r = if e.valid then 0 else 8) (fun _ (r : Int) => (.int .i64 r, []))
noncomputable def GEv : Nat → Option Ctr := fun f => if f = 73 then some (Je) else if f = 74 then some (Yu) else if f = 40 then some (W9) else if f = 38 then some (Zx) else none
theorem YM : ∀ g c, GEv g = some c → zf Try.prog g c := okIf Q6 (okIf XK (okIf V2 (okIf Yg (z3))))
theorem V6 : zf Try.prog 50 yo := by
 refine zn (fn := Try.f50) (c := Try.f50.body.getD .skip) rfl rfl rfl fun p hp O w0 Q hq => ?_
 obtain ⟨k, i, n, t, d, pa, na, va, b⟩ := p
 obtain ⟨h1, h2, h3⟩ := hp
 replace hq := hq _ rfl
 simp only at hq h1 h2 h3
 refine zc.run hmix YM [] 400 (T := .ite (bif !bif decide ((1 : Int) ≤ i) then decide (i ≤ 1073741824) else false then true else !bif decide ((0 : Int) ≤ n) then decide (n ≤ 1125899906842624) else false) (.leaf (.ret [.int .i64 8] [.box [.int .u8 k, .int .i64 i, .int .i64 n, .int .i64 t, .int .i64 d, .str pa, .str na, .str va, .bool b]])) (.side (inR .i64 (i - (1 : Int))) (.ex (fun (x : List UInt8) => eqL [AV.str va] [AV.str x] ∧ x.length < 4611686018427387904) fun n_1 => .all (fun (r : Int) => r = errR n_1) fun n_2 => .ite (decide (k = 1)) (.ex (fun (x : List UInt8) => eqL [AV.str na] [AV.str x] ∧ x.length < 4611686018427387904) fun n_3 => .all (fun (r : Bool) => r = qt n_3) fun n_4 => .ite (bif !bif bif n_4 then bif decide ((0 : Int) ≤ d) then decide (d ≤ 99999) else false else false then decide (n_2 = 0) else false then true else !(decide (k = k) && (decide (i = i) && (decide (n = n) && (decide (t = 0) && (decide (d = d) && (decide (pa = Array.toList #[]) && (decide (na = na) && (decide (va = va) && (b == false && true)))))))))) (.leaf (.ret [.int .i64 8] [.box [.int .u8 k, .int .i64 i, .int .i64 n, .int .i64 t, .int .i64 d, .str pa, .str na, .str va, .bool b], .box [.int .u8 k, .int .i64 i, .int .i64 n, .int .i64 0, .int .i64 d, .str (Array.toList #[]), .str na, .str va, .bool false]])) (.leaf (.ret [.int .i64 0] [.box [.int .u8 k, .int .i64 i, .int .i64 n, .int .i64 t, .int .i64 d, .str pa, .str na, .str va, .bool b], .box [.int .u8 k, .int .i64 i, .int .i64 n, .int .i64 0, .int .i64 d, .str (Array.toList #[]), .str na, .str va, .bool false]]))) (.ite (decide (k = 2)) (.ex (fun (x : List UInt8) => eqL [AV.str pa] [AV.str x] ∧ x.length < 4611686018427387904) fun n_3 => .all (fun (r : Bool) => r = qt n_3) fun n_4 => .ex (fun (x : List UInt8) => n_4 = true → eqL [AV.str na] [AV.str x] ∧ x.length < 4611686018427387904) fun n_5 => .all (fun (x : Bool) => n_4 = true → x = qt n_5) fun n_6 => .ite (bif !bif bif n_4 then n_6 else false then bif decide ((0 : Int) ≤ d) then decide (d ≤ 99999) else false else false then true else !(decide (k = k) && (decide (i = i) && (decide (n = n) && (decide (t = 0) && (decide (d = d) && (decide (pa = pa) && (decide (na = na) && (decide (va = Array.toList #[]) && (b == b && true)))))))))) (.leaf (.ret [.int .i64 8] [.box [.int .u8 k, .int .i64 i, .int .i64 n, .int .i64 t, .int .i64 d, .str pa, .str na, .str va, .bool b], .box [.int .u8 k, .int .i64 i, .int .i64 n, .int .i64 0, .int .i64 d, .str pa, .str na, .str (Array.toList #[]), .bool b]])) (.leaf (.ret [.int .i64 0] [.box [.int .u8 k, .int .i64 i, .int .i64 n, .int .i64 t, .int .i64 d, .str pa, .str na, .str va, .bool b], .box [.int .u8 k, .int .i64 i, .int .i64 n, .int .i64 0, .int .i64 d, .str pa, .str na, .str (Array.toList #[]), .bool b]]))) (.ite (decide (k = 3)) (.ite (bif !bif bif decide ((1 : Int) ≤ t) then decide (t ≤ i - (1 : Int)) else false then decide (n_2 = 0) else false then true else !(decide (k = k) && (decide (i = i) && (decide (n = n) && (decide (t = t) && (decide (d = 0) && (decide (pa = Array.toList #[]) && (decide (na = Array.toList #[]) && (decide (va = va) && (b == false && true)))))))))) (.leaf (.ret [.int .i64 8] [.box [.int .u8 k, .int .i64 i, .int .i64 n, .int .i64 t, .int .i64 d, .str pa, .str na, .str va, .bool b], .box [.int .u8 k, .int .i64 i, .int .i64 n, .int .i64 t, .int .i64 0, .str (Array.toList #[]), .str (Array.toList #[]), .str va, .bool false]])) (.leaf (.ret [.int .i64 0] [.box [.int .u8 k, .int .i64 i, .int .i64 n, .int .i64 t, .int .i64 d, .str pa, .str na, .str va, .bool b], .box [.int .u8 k, .int .i64 i, .int .i64 n, .int .i64 t, .int .i64 0, .str (Array.toList #[]), .str (Array.toList #[]), .str va, .bool false]]))) (.ite (decide (k = 4)) (.ite (bif !bif decide ((1 : Int) ≤ t) then decide (t ≤ i - (1 : Int)) else false then true else !(decide (k = k) && (decide (i = i) && (decide (n = n) && (decide (t = t) && (decide (d = 0) && (decide (pa = Array.toList #[]) && (decide (na = Array.toList #[]) && (decide (va = Array.toList #[]) && (b == b && true)))))))))) (.leaf (.ret [.int .i64 8] [.box [.int .u8 k, .int .i64 i, .int .i64 n, .int .i64 t, .int .i64 d, .str pa, .str na, .str va, .bool b], .box [.int .u8 k, .int .i64 i, .int .i64 n, .int .i64 t, .int .i64 0, .str (Array.toList #[]), .str (Array.toList #[]), .str (Array.toList #[]), .bool b]])) (.leaf (.ret [.int .i64 0] [.box [.int .u8 k, .int .i64 i, .int .i64 n, .int .i64 t, .int .i64 d, .str pa, .str na, .str va, .bool b], .box [.int .u8 k, .int .i64 i, .int .i64 n, .int .i64 t, .int .i64 0, .str (Array.toList #[]), .str (Array.toList #[]), .str (Array.toList #[]), .bool b]]))) (.ite (decide (k = 5)) (.ite (bif !bif decide ((1 : Int) ≤ t) then decide (t ≤ i - (1 : Int)) else false then true else !(decide (k = k) && (decide (i = i) && (decide (n = n) && (decide (t = t) && (decide (d = 0) && (decide (pa = Array.toList #[]) && (decide (na = Array.toList #[]) && (decide (va = Array.toList #[]) && (b == false && true)))))))))) (.leaf (.ret [.int .i64 8] [.box [.int .u8 k, .int .i64 i, .int .i64 n, .int .i64 t, .int .i64 d, .str pa, .str na, .str va, .bool b], .box [.int .u8 k, .int .i64 i, .int .i64 n, .int .i64 t, .int .i64 0, .str (Array.toList #[]), .str (Array.toList #[]), .str (Array.toList #[]), .bool false]])) (.leaf (.ret [.int .i64 0] [.box [.int .u8 k, .int .i64 i, .int .i64 n, .int .i64 t, .int .i64 d, .str pa, .str na, .str va, .bool b], .box [.int .u8 k, .int .i64 i, .int .i64 n, .int .i64 t, .int .i64 0, .str (Array.toList #[]), .str (Array.toList #[]), .str (Array.toList #[]), .bool false]]))) (.ite (bif !false then true else !(decide (k = k) && (decide (i = i) && (decide (n = n) && (decide (t = 0) && (decide (d = 0) && (decide (pa = Array.toList #[]) && (decide (na = Array.toList #[]) && (decide (va = Array.toList #[]) && (b == false && true)))))))))) (.leaf (.ret [.int .i64 8] [.box [.int .u8 k, .int .i64 i, .int .i64 n, .int .i64 t, .int .i64 d, .str pa, .str na, .str va, .bool b], .box [.int .u8 k, .int .i64 i, .int .i64 n, .int .i64 0, .int .i64 0, .str (Array.toList #[]), .str (Array.toList #[]), .str (Array.toList #[]), .bool false]])) (.leaf (.ret [.int .i64 0] [.box [.int .u8 k, .int .i64 i, .int .i64 n, .int .i64 t, .int .i64 d, .str pa, .str na, .str va, .bool b], .box [.int .u8 k, .int .i64 i, .int .i64 n, .int .i64 0, .int .i64 0, .str (Array.toList #[]), .str (Array.toList #[]), .str (Array.toList #[]), .bool false]])))))))))) (by kernel_rfl) ?_
 simp only [Tree.holds, ze]
 have two : ∀ (c : Bool) (h h' : Heap), (c = !(Ev.valid ⟨k, i, n, t, d, pa, na, va, b⟩)) → (c = true → RetR yo 0 Q [.int .i64 8] h) ∧ (c = false → RetR yo 0 Q [.int .i64 0] h') := by
  intro c h h' hc
  rw [hc]
  refine ⟨fun g => RetR.scal hq rfl ?_, fun g => RetR.scal hq rfl ?_⟩
  ·rw [if_neg (by simpa using g)]; rfl
  ·rw [if_pos (by simpa using g)]; rfl
 refine ⟨fun g => (two true _ [] (by
  have g' : (inB i 1 1073741824 && inB n 0 1125899906842624) = false := by
   simp only [inB]
   revert g
   cases decide (1 ≤ i) <;> cases decide (i ≤ 1073741824) <;> cases decide (0 ≤ n) <;> cases decide (n ≤ 1125899906842624) <;> simp
  simp only [Ev.valid, g', Bool.false_and]; rfl)).1 rfl, fun g => ?_⟩
 have g' : (inB i 1 1073741824 && inB n 0 1125899906842624) = true := by
  simp only [inB]
  revert g
  cases decide (1 ≤ i) <;> cases decide (i ≤ 1073741824) <;> cases decide (0 ≤ n) <;> cases decide (n ≤ 1125899906842624) <;> simp
 have hv : Ev.valid ⟨k, i, n, t, d, pa, na, va, b⟩ = (if k = 1 then qt na && dayB d && decide (errR va = 0) && decide (t = 0) && decide (pa = []) && !b
  else if k = 2 then qt pa && qt na && dayB d && decide (t = 0) && decide (va = [])
  else inB t 1 (i - 1) && decide (d = 0) && decide (pa = []) && decide (na = []) &&
   (if k = 3 then decide (errR va = 0) && !b
   else if k = 4 then decide (va = [])
   else if k = 5 then decide (va = []) && !b else false)) := by
  simp only [Ev.valid, g', Bool.true_and]
  by_cases k5 : k = 5 <;> simp [k5]
 have hi1 : inR .i64 (i - 1) := by
  simp only [inB, Bool.and_eq_true, decide_eq_true_eq] at g'
  simp only [inR, lo, hi]
  omega
 rw [hv] at two
 clear hv g hq
 refine ⟨hi1, fun _ => ⟨va, ⟨by simp, by omega⟩, ⟨_, rfl⟩, ?_⟩⟩
 rintro _ rfl
 simp only [dayB, inB] at two
 have B : ∀ b : Bool, (b == false) = !b := by decide
 simp only [B, beq_self_eq_true, decide_true, Bool.true_and, Bool.and_true]
 have bi : ∀ x y : Bool, (bif x then y else false) = (x && y) := by decide
 have bo : ∀ x y : Bool, (bif x then true else y) = (x || y) := by decide
 simp only [bi, bo]
 generalize decide (errR va = 0) = e1 at two ⊢
 generalize decide (t = 0) = e2 at two ⊢
 generalize decide (pa = []) = e3 at two ⊢
 generalize decide (va = []) = e4 at two ⊢
 generalize decide (0 ≤ d) = e5 at two ⊢
 generalize decide (d ≤ 99999) = e6 at two ⊢
 generalize decide (na = []) = e7 at two ⊢
 generalize decide (d = 0) = e8 at two ⊢
 generalize decide (1 ≤ t) = e9 at two ⊢
 generalize decide (t ≤ i - 1) = e10 at two ⊢
 refine ⟨fun k1 => ?_, fun k1 => ⟨fun k2 => ?_, fun k2 => ⟨fun k3 => ?_, fun k3 => ⟨fun k4 => ?_, fun k4 => ⟨fun k5 => ?_, fun k5 => ?_⟩⟩⟩⟩⟩ <;> simp only [decide_eq_true_eq, decide_eq_false_iff_not] at *
 ·rw [if_pos k1] at two
  refine ⟨na, ⟨by simp, by omega⟩, ⟨_, rfl⟩, ?_⟩
  rintro _ rfl
  refine two _ _ _ ?_
  generalize qt na = e11
  clear two hi1
  cases e1 <;> cases e2 <;> cases e3 <;> cases e5 <;> cases e6 <;> cases e11 <;> cases b <;> rfl
 ·rw [if_neg k1, if_pos k2] at two
  refine ⟨pa, ⟨by simp, by omega⟩, ⟨_, rfl⟩, ?_⟩
  rintro _ rfl
  refine ⟨na, fun _ => ⟨by simp, by omega⟩, ⟨_, fun _ => rfl⟩, ?_⟩
  intro b6 h6
  refine two _ _ _ ?_
  generalize qt na = e11 at h6 ⊢
  generalize qt pa = e12 at h6 ⊢
  clear two hi1
  cases e12
  ·rfl
  ·rw [h6 rfl]
   cases e2 <;> cases e4 <;> cases e5 <;> cases e6 <;> cases e11 <;> rfl
 ·rw [if_neg k1, if_neg k2, if_pos k3] at two
  refine two _ _ _ ?_
  clear two hi1
  cases e1 <;> cases e3 <;> cases e7 <;> cases e8 <;> cases e9 <;> cases e10 <;> cases b <;> rfl
 ·rw [if_neg k1, if_neg k2, if_neg k3, if_pos k4] at two
  refine two _ _ _ ?_
  clear two hi1
  cases e4 <;> cases e3 <;> cases e7 <;> cases e8 <;> cases e9 <;> cases e10 <;> rfl
 ·rw [if_neg k1, if_neg k2, if_neg k3, if_neg k4, if_pos k5] at two
  refine two _ _ _ ?_
  clear two hi1
  cases e4 <;> cases e3 <;> cases e7 <;> cases e8 <;> cases e9 <;> cases e10 <;> cases b <;> rfl
 ·rw [if_neg k1, if_neg k2, if_neg k3, if_neg k4, if_neg k5] at two
  refine two _ _ _ ?_
  clear two hi1
  cases e4 <;> cases e3 <;> cases e7 <;> cases e8 <;> cases e9 <;> cases e10 <;> cases b <;> rfl
noncomputable def KF : Ctr := inlC Try.prog noG 100 Try.f75
theorem VY : zf Try.prog 75 KF := vu hmix z2 rfl rfl
noncomputable def Y8 : Ctr := inlC Try.prog noG 100 Try.f89
theorem Ye : zf Try.prog 89 Y8 := vu hmix z2 rfl rfl
noncomputable def GEr0 : Nat → Option Ctr := fun f => if f = 89 then some (Y8) else if f = 90 then some (QM) else none
theorem WN : ∀ g c, GEr0 g = some c → zf Try.prog g c := okIf Ye (okIf Wk (z3))
noncomputable def Xu : Ctr := inlC Try.prog GEr0 100 Try.f77
theorem VW : zf Try.prog 77 Xu := vu hmix WN rfl rfl
noncomputable def WU : Ctr := inlC Try.prog GEr0 100 Try.f78
theorem V7 : zf Try.prog 78 WU := vu hmix WN rfl rfl
def Jy : Ctr := ctrP true (fun e : Ev => [e.av]) zC (fun e r => r = e.valid) (fun _ (r : Bool) => (.bool r, []))
noncomputable def GEr : Nat → Option Ctr := fun f => if f = 75 then some (KF) else if f = 77 then some (Xu) else if f = 78 then some (WU) else if f = 76 then some (Zx) else none
theorem YQ : ∀ g c, GEr g = some c → zf Try.prog g c := okIf VY (okIf VW (okIf V7 (okIf VV (z3))))
theorem KG : zf Try.prog 53 Jy := by
 refine zn (fn := Try.f53) (c := Try.f53.body.getD .skip) rfl rfl rfl fun p hp O w0 Q hq => ?_
 obtain ⟨k, i, n, t, d, pa, na, va, b⟩ := p
 obtain ⟨h1, h2, h3⟩ := hp
 replace hq := hq _ rfl
 simp only at hq h1 h2 h3
 refine zc.run hmix YQ [] 400 (T := .ite (bif !bif decide ((1 : Int) ≤ i) then decide (i ≤ 1073741824) else false then true else !bif decide ((0 : Int) ≤ n) then decide (n ≤ 1125899906842624) else false) (.leaf (.ret [.bool false] [.box [.int .u8 k, .int .i64 i, .int .i64 n, .int .i64 t, .int .i64 d, .str pa, .str na, .str va, .bool b]])) (.side (inR .i64 (i - (1 : Int))) (.ite (decide (k = 1)) (.ex (fun (x : List UInt8) => eqL [AV.str na] [AV.str x] ∧ x.length < 4611686018427387904) fun n_1 => .all (fun (r : Bool) => r = qt n_1) fun n_2 => .ex (fun (x : List UInt8) => (bif n_2 then bif decide ((0 : Int) ≤ d) then decide (d ≤ 99999) else false else false) = true → eqL [AV.str va] [AV.str x] ∧ x.length < 1099511627776) fun n_3 => .all (fun (x : Int) => (bif n_2 then bif decide ((0 : Int) ≤ d) then decide (d ≤ 99999) else false else false) = true → x = errR n_3) fun n_4 => .leaf (.ret [.bool (bif bif bif bif bif n_2 then bif decide ((0 : Int) ≤ d) then decide (d ≤ 99999) else false else false then decide (n_4 = 0) else false then decide (t = 0) else false then decide (pa = Array.toList #[]) else false then !b else false)] [.box [.int .u8 k, .int .i64 i, .int .i64 n, .int .i64 t, .int .i64 d, .str pa, .str na, .str va, .bool b]])) (.ite (decide (k = 2)) (.ex (fun (x : List UInt8) => eqL [AV.str pa] [AV.str x] ∧ x.length < 4611686018427387904) fun n_1 => .all (fun (r : Bool) => r = qt n_1) fun n_2 => .ex (fun (x : List UInt8) => n_2 = true → eqL [AV.str na] [AV.str x] ∧ x.length < 4611686018427387904) fun n_3 => .all (fun (x : Bool) => n_2 = true → x = qt n_3) fun n_4 => .leaf (.ret [.bool (bif bif bif bif n_2 then n_4 else false then bif decide ((0 : Int) ≤ d) then decide (d ≤ 99999) else false else false then decide (t = 0) else false then decide (va = Array.toList #[]) else false)] [.box [.int .u8 k, .int .i64 i, .int .i64 n, .int .i64 t, .int .i64 d, .str pa, .str na, .str va, .bool b]])) (.ite (decide (k = 3)) (.ex (fun (x : List UInt8) => (bif decide ((1 : Int) ≤ t) then decide (t ≤ i - (1 : Int)) else false) = true → eqL [AV.str va] [AV.str x] ∧ x.length < 1099511627776) fun n_1 => .all (fun (x : Int) => (bif decide ((1 : Int) ≤ t) then decide (t ≤ i - (1 : Int)) else false) = true → x = errR n_1) fun n_2 => .leaf (.ret [.bool (bif bif bif bif bif bif decide ((1 : Int) ≤ t) then decide (t ≤ i - (1 : Int)) else false then decide (n_2 = 0) else false then decide (d = 0) else false then decide (pa = Array.toList #[]) else false then decide (na = Array.toList #[]) else false then !b else false)] [.box [.int .u8 k, .int .i64 i, .int .i64 n, .int .i64 t, .int .i64 d, .str pa, .str na, .str va, .bool b]])) (.ite (decide (k = 4)) (.leaf (.ret [.bool (bif bif bif bif bif decide ((1 : Int) ≤ t) then decide (t ≤ i - (1 : Int)) else false then decide (d = 0) else false then decide (pa = Array.toList #[]) else false then decide (na = Array.toList #[]) else false then decide (va = Array.toList #[]) else false)] [.box [.int .u8 k, .int .i64 i, .int .i64 n, .int .i64 t, .int .i64 d, .str pa, .str na, .str va, .bool b]])) (.ite (decide (k = 5)) (.leaf (.ret [.bool (bif bif bif bif bif bif decide ((1 : Int) ≤ t) then decide (t ≤ i - (1 : Int)) else false then decide (d = 0) else false then decide (pa = Array.toList #[]) else false then decide (na = Array.toList #[]) else false then decide (va = Array.toList #[]) else false then !b else false)] [.box [.int .u8 k, .int .i64 i, .int .i64 n, .int .i64 t, .int .i64 d, .str pa, .str na, .str va, .bool b]])) (.leaf (.ret [.bool false] [.box [.int .u8 k, .int .i64 i, .int .i64 n, .int .i64 t, .int .i64 d, .str pa, .str na, .str va, .bool b]]))))))))) (by kernel_rfl) ?_
 simp only [Tree.holds, ze]
 have two : ∀ (c : Bool) (h : Heap), (c = Ev.valid ⟨k, i, n, t, d, pa, na, va, b⟩) → RetR Jy 0 Q [.bool c] h := by
  intro c h hc
  rw [hc]
  exact RetR.scal hq rfl rfl
 refine ⟨fun g => two _ _ ?_, fun g => ?_⟩
 ·have g' : (inB i 1 1073741824 && inB n 0 1125899906842624) = false := by
   simp only [inB]
   revert g
   cases decide (1 ≤ i) <;> cases decide (i ≤ 1073741824) <;> cases decide (0 ≤ n) <;> cases decide (n ≤ 1125899906842624) <;> simp
  simp only [Ev.valid, g', Bool.false_and]
 have g' : (inB i 1 1073741824 && inB n 0 1125899906842624) = true := by
  simp only [inB]
  revert g
  cases decide (1 ≤ i) <;> cases decide (i ≤ 1073741824) <;> cases decide (0 ≤ n) <;> cases decide (n ≤ 1125899906842624) <;> simp
 have hv : Ev.valid ⟨k, i, n, t, d, pa, na, va, b⟩ = (if k = 1 then qt na && dayB d && decide (errR va = 0) && decide (t = 0) && decide (pa = []) && !b
  else if k = 2 then qt pa && qt na && dayB d && decide (t = 0) && decide (va = [])
  else inB t 1 (i - 1) && decide (d = 0) && decide (pa = []) && decide (na = []) &&
   (if k = 3 then decide (errR va = 0) && !b
   else if k = 4 then decide (va = [])
   else if k = 5 then decide (va = []) && !b else false)) := by
  simp only [Ev.valid, g', Bool.true_and]
  by_cases k5 : k = 5 <;> simp [k5]
 have hi1 : inR .i64 (i - 1) := by
  simp only [inB, Bool.and_eq_true, decide_eq_true_eq] at g'
  simp only [inR, lo, hi]
  omega
 rw [hv] at two
 clear hv g hq
 refine ⟨hi1, fun _ => ?_⟩
 simp only [dayB, inB] at two
 have bi : ∀ x y : Bool, (bif x then y else false) = (x && y) := by decide
 simp only [bi]
 generalize decide (t = 0) = e2 at two ⊢
 generalize decide (pa = []) = e3 at two ⊢
 generalize decide (va = []) = e4 at two ⊢
 generalize decide (0 ≤ d) = e5 at two ⊢
 generalize decide (d ≤ 99999) = e6 at two ⊢
 generalize decide (na = []) = e7 at two ⊢
 generalize decide (d = 0) = e8 at two ⊢
 generalize decide (1 ≤ t) = e9 at two ⊢
 generalize decide (t ≤ i - 1) = e10 at two ⊢
 have hz : ∃ z, z = errR va := ⟨_, rfl⟩
 refine ⟨fun k1 => ?_, fun k1 => ⟨fun k2 => ?_, fun k2 => ⟨fun k3 => ?_, fun k3 => ⟨fun k4 => ?_, fun k4 => ⟨fun k5 => ?_, fun k5 => ?_⟩⟩⟩⟩⟩ <;> simp only [decide_eq_true_eq, decide_eq_false_iff_not] at k1
 ·rw [if_pos k1] at two
  refine ⟨na, ⟨by simp, by omega⟩, ⟨_, rfl⟩, ?_⟩
  rintro _ rfl
  refine ⟨va, fun _ => ⟨by simp, by omega⟩, ⟨_, fun _ => rfl⟩, ?_⟩
  intro z hz
  refine two _ _ ?_
  generalize qt na = e11 at hz ⊢
  clear two hi1
  cases hc : (e11 && (e5 && e6))
  ·rfl
  ·rw [hz hc]
 ·simp only [decide_eq_true_eq] at k2
  rw [if_neg k1, if_pos k2] at two
  refine ⟨pa, ⟨by simp, by omega⟩, ⟨_, rfl⟩, ?_⟩
  rintro _ rfl
  refine ⟨na, fun _ => ⟨by simp, by omega⟩, ⟨_, fun _ => rfl⟩, ?_⟩
  intro b6 h6
  refine two _ _ ?_
  generalize qt na = e11 at h6 ⊢
  generalize qt pa = e12 at h6 ⊢
  clear two hi1
  cases e12
  ·rfl
  ·rw [h6 rfl]
 ·simp only [decide_eq_true_eq, decide_eq_false_iff_not] at k2 k3
  rw [if_neg k1, if_neg k2, if_pos k3] at two
  refine ⟨va, fun _ => ⟨by simp, by omega⟩, ⟨_, fun _ => rfl⟩, ?_⟩
  intro z hz
  refine two _ _ ?_
  clear two hi1
  cases hc : (e9 && e10)
  ·simp
  ·rw [hz hc]
   generalize decide (errR va = 0) = e1
   clear hc hz
   cases e1 <;> cases e3 <;> cases e7 <;> cases e8 <;> cases b <;> rfl
 ·simp only [decide_eq_true_eq, decide_eq_false_iff_not] at k2 k3 k4
  rw [if_neg k1, if_neg k2, if_neg k3, if_pos k4] at two
  exact two _ _ rfl
 ·simp only [decide_eq_true_eq, decide_eq_false_iff_not] at k2 k3 k4 k5
  rw [if_neg k1, if_neg k2, if_neg k3, if_neg k4, if_pos k5] at two
  refine two _ _ ?_
  clear two hi1
  cases e4 <;> cases e3 <;> cases e7 <;> cases e8 <;> cases e9 <;> cases e10 <;> cases b <;> rfl
 ·simp only [decide_eq_true_eq, decide_eq_false_iff_not] at k2 k3 k4 k5
  rw [if_neg k1, if_neg k2, if_neg k3, if_neg k4, if_neg k5] at two
  refine two _ _ ?_
  simp
end Go.Proofs.Try
end

/- Facts that stand: what corrections and new facts do to them. -/
section
namespace Go.Nov
open Go.Sx
theorem qE {α : Type} {l : List α} {z : α} {j : Nat} (h : j < l.length) : l.getD j z = l[j] := by simp [List.getD, h]
theorem Yd {α : Type} {p : α → Bool} {l : List α} {z : α} {j : Nat} (hj : j < l.length) (hp : p (l.getD j z) = true) (hu : ∀ i, i < l.length → p (l.getD i z) = true → i = j) : l.findIdx p = j := by
 have hlt : l.findIdx p < l.length := List.findIdx_lt_length_of_exists ⟨l[j], List.getElem_mem hj, by rwa [qE hj] at hp⟩
 exact hu _ hlt (by rw [qE hlt]; exact List.findIdx_getElem (w := hlt))
theorem xP {l : List Ev} {k : List Sc} : zo l k = true ↔ ∃ j, j < l.length ∧ (l.getD j Ev.nil).kind ≠ 0 ∧ (l.getD j Ev.nil).key = k := by
 unfold zo
 rw [List.any_eq_true]
 constructor
 ·rintro ⟨x, hx, hl⟩
  obtain ⟨j, hj, rfl⟩ := List.mem_iff_getElem.1 hx
  refine ⟨j, hj, ?_⟩
  rw [qE hj]
  simpa [Ev.qR] using hl
 ·rintro ⟨j, hj, hl⟩
  rw [qE hj] at hl
  exact ⟨_, List.getElem_mem hj, by simpa [Ev.qR] using hl⟩
theorem qH {α : Type} {l : List α} {z y : α} {i j : Nat} (hi : i < l.length) : (l.set i y).getD j z = if j = i then y else l.getD j z := by
 by_cases h : j = i
 ·subst h; rw [if_pos rfl]; simp [List.getD, hi]
 ·rw [if_neg h]
  simp only [List.getD]
  rw [List.getElem?_set_ne (fun g => h g.symm)]
theorem KT {s : SS} (ho : s.ok) {k : List Sc} {j : Nat} (hj : j < s.lat.length) (h1 : (s.lat.getD j Ev.nil).kind ≠ 0) (h2 : (s.lat.getD j Ev.nil).key = k) : s.lat.findIdx (Ev.qR k) = j :=
 Yd (z := Ev.nil) hj (by simp only [Ev.qR, h2, decide_true, Bool.and_true]; exact decide_eq_true h1) fun i hi hl => by
  have hl : (s.lat.getD i Ev.nil).kind ≠ 0 ∧ (s.lat.getD i Ev.nil).key = k := by simpa [Ev.qR] using hl
  exact ho.uniq i j hi hj hl.1 h1 (by rw [hl.2, h2])
theorem Kg {s : SS} (ho : s.ok) {i : Nat} (hi : i < s.lat.length) : SS.ok ⟨s.evs, s.lat.set i Ev.nil⟩ where
 len := by simpa using ho.len
 uniq a b ha hb := by
  simp only [List.length_set] at ha hb
  simp only [qH hi]
  by_cases h1 : a = i
  ·rw [if_pos h1]; intro h; exact absurd rfl h
  ·by_cases h2 : b = i
   ·rw [if_pos h2]; intro _ h; exact absurd rfl h
   ·rw [if_neg h1, if_neg h2]; exact ho.uniq a b ha hb
 kinds a ha := by
  simp only [List.length_set] at ha
  simp only [qH hi]
  by_cases h1 : a = i
  ·rw [if_pos h1]; exact .inl rfl
  ·rw [if_neg h1]; exact ho.kinds a ha
theorem Xw {s : SS} (ho : s.ok) {i : Nat} (hi : i < s.lat.length) (hk : (s.lat.getD i Ev.nil).kind ≠ 0) (k : List Sc) : xC (zo s.lat) (s.lat.getD i Ev.nil).key k = zo (s.lat.set i Ev.nil) k := by
 rw [Bool.eq_iff_iff]
 simp only [xC, Bool.and_eq_true, Bool.not_eq_true', decide_eq_false_iff_not]
 rw [xP, xP]
 simp only [List.length_set, qH hi]
 constructor
 ·rintro ⟨h1, j, hj, h2, h3⟩
  have : j ≠ i := fun e => h1 (by rw [← h3, e])
  exact ⟨j, hj, by rw [if_neg this]; exact ⟨h2, h3⟩⟩
 ·rintro ⟨j, hj, h2⟩
  by_cases e : j = i
  ·rw [if_pos e] at h2; exact absurd rfl h2.1
  ·rw [if_neg e] at h2
   exact ⟨fun g => e (ho.uniq j i hj hi h2.1 hk (by rw [h2.2, g])), j, hj, h2⟩
theorem Vz {s : SS} (ho : s.ok) {i : Nat} (hi : i < s.lat.length) {k : List Sc} (h : zo (s.lat.set i Ev.nil) k = true) : zz s.lat k = zz (s.lat.set i Ev.nil) k := by
 obtain ⟨j, hj, h1, h2⟩ := xP.1 h
 have e2 := KT (Kg ho hi) hj h1 h2
 rw [List.length_set] at hj
 rw [qH hi] at h1 h2
 by_cases e : j = i
 ·rw [if_pos e] at h1; exact absurd rfl h1
 ·rw [if_neg e] at h1 h2
  unfold zz
  rw [KT ho hj h1 h2, e2]
theorem VJ {l : List Ev} {i : Nat} {y : Ev} (hi : i < l.length) (h1 : y.kind = (l.getD i Ev.nil).kind) (h2 : y.key = (l.getD i Ev.nil).key) (k : List Sc) : ∀ j, j < l.length → Ev.qR k ((l.set i y).getD j Ev.nil) = Ev.qR k (l.getD j Ev.nil) := by
 intro j hj
 rw [qH hi]
 by_cases e : j = i
 ·rw [if_pos e, e]; simp only [Ev.qR, h1, h2]
 ·rw [if_neg e]
theorem Ya {α : Type} {p q : α → Bool} {l m : List α} {z : α} (hl : l.length = m.length) (h : ∀ j, j < l.length → p (l.getD j z) = q (m.getD j z)) : l.any p = m.any q ∧ l.findIdx p = m.findIdx q := by
 induction l generalizing m with
 | nil => cases m with
  | nil => exact ⟨rfl, rfl⟩
  | cons _ _ => simp at hl
 | cons x l ih =>
  cases m with
  | nil => simp at hl
  | cons y m =>
   have h0 := h 0 (by simp)
   simp only [List.getD_cons_zero] at h0
   have hr := ih (m := m) (by simpa using hl) fun j hj => by
    have := h (j + 1) (by simpa using hj)
    simpa using this
   refine ⟨by simp only [List.any_cons, h0, hr.1], ?_⟩
   simp only [List.findIdx_cons, h0, hr.2]
theorem YK {l : List Ev} {i : Nat} {y : Ev} (hi : i < l.length) (h1 : y.kind = (l.getD i Ev.nil).kind) (h2 : y.key = (l.getD i Ev.nil).key) (k : List Sc) : zo l k = zo (l.set i y) k ∧ zz l k = zz (l.set i y) k := by
 have := Ya (p := Ev.qR k) (q := Ev.qR k) (l := l) (m := l.set i y) (z := Ev.nil) (by simp) fun j hj => (VJ hi h1 h2 k j hj).symm
 unfold zo zz
 rw [this.1, this.2]
 exact ⟨rfl, rfl⟩
theorem YJ {s : SS} (ho : s.ok) {i : Nat} {y : Ev} (hi : i < s.lat.length) (h1 : y.kind = (s.lat.getD i Ev.nil).kind) (h2 : y.key = (s.lat.getD i Ev.nil).key) : SS.ok ⟨s.evs, s.lat.set i y⟩ := by
 have e1 : ∀ j, ((s.lat.set i y).getD j Ev.nil).kind = (s.lat.getD j Ev.nil).kind := fun j => by
  rw [qH hi]; by_cases e : j = i
  ·rw [if_pos e, e, h1]
  ·rw [if_neg e]
 have e2 : ∀ j, ((s.lat.set i y).getD j Ev.nil).key = (s.lat.getD j Ev.nil).key := fun j => by
  rw [qH hi]; by_cases e : j = i
  ·rw [if_pos e, e, h2]
  ·rw [if_neg e]
 refine ⟨by simpa using ho.len, fun a b ha hb => ?_, fun a ha => ?_⟩
 ·simp only [List.length_set] at ha hb
  simp only [e1, e2]
  exact ho.uniq a b ha hb
 ·simp only [List.length_set] at ha
  simp only [e1]
  exact ho.kinds a ha
theorem X4 {s : SS} {e : Ev} (hk : e.kind ≠ 0) (k : List Sc) : qK (zo s.lat) e.key k = zo (s.lat ++ [e]) k := by
 simp only [qK, zo, List.any_append, List.any_cons, List.any_nil, Bool.or_false, Ev.qR, hk, ne_eq, not_false_eq_true, decide_true, Bool.true_and]
 rw [Bool.or_comm]
 congr 1
 exact decide_eq_decide.2 ⟨fun h => h.symm, fun h => h.symm⟩
theorem Vt {s : SS} {e : Ev} (hk : e.kind ≠ 0) (hid : e.id = s.lat.length + 1) (hn : zo s.lat e.key = false) (k : List Sc) (h : zo (s.lat ++ [e]) k = true) : z7 (zz s.lat) e.key (.int .i64 e.id) k = zz (s.lat ++ [e]) k := by
 unfold z7 zz
 rw [List.findIdx_append]
 by_cases q : k = e.key
 ·rw [if_pos q]
  subst q
  have : ¬ s.lat.findIdx (Ev.qR e.key) < s.lat.length := by
   rw [List.findIdx_lt_length]
   rintro ⟨x, hx, hl⟩
   have : zo s.lat e.key = true := List.any_eq_true.2 ⟨x, hx, hl⟩
   rw [hn] at this; cases this
  rw [if_neg this]
  have e1 : Ev.qR e.key e = true := by simp [Ev.qR, hk]
  simp only [List.findIdx_cons, e1]
  rw [hid]; simp
 ·rw [if_neg q]
  have : s.lat.findIdx (Ev.qR k) < s.lat.length := by
   rw [List.findIdx_lt_length]
   simp only [zo, List.any_append, List.any_cons, List.any_nil, Bool.or_false, Bool.or_eq_true] at h
   rcases h with h | h
   ·exact List.any_eq_true.1 h
   ·have h : e.kind ≠ 0 ∧ e.key = k := by simpa [Ev.qR] using h
    exact absurd h.2.symm q
  rw [if_pos this]
theorem xx {l : List Ev} (k : List Sc) : zo l k = zo (l ++ [Ev.nil]) k ∧ (zo (l ++ [Ev.nil]) k = true → zz l k = zz (l ++ [Ev.nil]) k) := by
 have e : zo l k = zo (l ++ [Ev.nil]) k := by
  simp [zo, Ev.qR]
 refine ⟨e, fun h => ?_⟩
 rw [← e] at h
 unfold zz
 rw [List.findIdx_append, if_pos]
 rw [List.findIdx_lt_length]
 exact List.any_eq_true.1 h
theorem qZ {α : Type} {l : List α} {x z : α} {j : Nat} (h : j < l.length + 1) : (l ++ [x]).getD j z = if j < l.length then l.getD j z else x := by
 by_cases q : j < l.length
 ·rw [if_pos q]; simp only [List.getD, List.getElem?_append_left q]
 ·rw [if_neg q]
  obtain rfl : j = l.length := by omega
  simp [List.getD]
theorem Ku {s : SS} (ho : s.ok) {e x : Ev} (hx : x.kind = 0 ∨ (x.kind = 1 ∨ x.kind = 2) ∧ zo s.lat x.key = false) : SS.ok ⟨s.evs ++ [e], s.lat ++ [x]⟩ := by
 refine ⟨by simp [ho.len], fun a b ha hb => ?_, fun a ha => ?_⟩
 ·simp only [List.length_append, List.length_cons, List.length_nil] at ha hb
  simp only
  rw [qZ (by omega), qZ (by omega)]
  by_cases h1 : a < s.lat.length <;> by_cases h2 : b < s.lat.length
  ·rw [if_pos h1, if_pos h2]; exact ho.uniq a b h1 h2
  ·rw [if_pos h1, if_neg h2]
   intro k1 k2 k3
   rcases hx with hx | ⟨_, hx⟩
   ·exact absurd hx k2
   ·have : zo s.lat x.key = true := xP.2 ⟨a, h1, k1, k3⟩
    rw [hx] at this; cases this
  ·rw [if_neg h1, if_pos h2]
   intro k1 k2 k3
   rcases hx with hx | ⟨_, hx⟩
   ·exact absurd hx k1
   ·have : zo s.lat x.key = true := xP.2 ⟨b, h2, k2, k3.symm⟩
    rw [hx] at this; cases this
  ·intros; omega
 ·simp only [List.length_append, List.length_cons, List.length_nil] at ha
  simp only
  rw [qZ (by omega)]
  by_cases h1 : a < s.lat.length
  ·rw [if_pos h1]; exact ho.kinds a h1
  ·rw [if_neg h1]
   rcases hx with hx | ⟨hx, _⟩
   ·exact .inl hx
   ·exact .inr hx
theorem Kd {l : List Ev} {i : Nat} {y : Ev} (hi : i < l.length) {g : Nat → Nat → AV} (h1 : ∀ o, o < 9 → g i o = y.cell o) (h2 : ∀ j o, j ≠ i → g j o = evG l j o) : eqG l.length 9 g (evG (l.set i y)) := by
 intro j o hj ho
 unfold evG
 rw [qH hi]
 by_cases e : j = i
 ·rw [if_pos e, e]; exact h1 o ho
 ·rw [if_neg e]; exact h2 j o e
theorem yq {s : SS} (ho : s.ok) {e : Ev} (ht : 0 < e.target) : (s.cor e).ok ∧ (s.cor e).lat.length = s.lat.length ∧ (s.cor e).evs = s.evs := by
 unfold SS.cor
 by_cases h : s.errC e = 0
 ·rw [if_pos h]
  unfold SS.errC at h
  by_cases h1 : (s.lat.length : Int) < e.target ∨ (s.fact e).kind = 0
  ·rw [if_pos h1] at h; cases h
  ·have hi : e.target.toNat - 1 < s.lat.length := by omega
   refine ⟨?_, by simp, rfl⟩
   unfold SS.fixed
   split
   ·exact Kg ho hi
   ·exact YJ ho hi rfl rfl
 ·rw [if_neg h]; exact ⟨ho, rfl, rfl⟩
theorem Jk {s : SS} (ho : s.ok) (e : Ev) : (s.add e).ok := by
 unfold SS.add
 by_cases h : s.errA e = 0
 ·rw [if_neg (by simpa using h)]
  unfold SS.errA at h
  by_cases h1 : e.valid = false ∨ e.id ≠ s.evs.length + 1
  ·rw [if_pos h1] at h; cases h
  ·rw [if_neg h1] at h
   by_cases h2 : 0 < s.evs.length ∧ e.entry < (s.evs.getD (s.evs.length - 1) Ev.nil).entry
   ·rw [if_pos h2] at h; cases h
   ·rw [if_neg h2] at h
    by_cases h3 : 1000 ≤ s.evs.length
    ·rw [if_pos h3] at h; cases h
    ·rw [if_neg h3] at h
     by_cases ht : 0 < e.target
     ·rw [if_pos ht]
      obtain ⟨c1, c2, c3⟩ := yq ho ht
      have := Ku c1 (e := e) (x := Ev.nil) (.inl rfl)
      rw [c3] at this
      exact this
     ·rw [if_neg ht] at h ⊢
      by_cases h4 : zo s.lat e.key = true
      ·rw [if_pos h4] at h; cases h
      ·refine Ku ho (.inr ⟨?_, by simpa using h4⟩)
       have hv : e.valid = true := by
        cases hv : e.valid
        ·exact absurd (.inl hv) h1
        ·rfl
       unfold Ev.valid at hv
       by_cases k1 : e.kind = 1
       ·exact .inl k1
       ·by_cases k2 : e.kind = 2
        ·exact .inr k2
        ·rw [if_neg k1, if_neg k2] at hv
         simp only [Bool.and_eq_true, inB, decide_eq_true_eq] at hv
         omega
 ·rw [if_pos h]; exact ho
end Go.Nov
namespace Go.Nov
def SS.play (s : SS) : List Ev → Option SS
 | [] => some s
 | e :: l => if s.errA e = 0 then (s.add e).play l else none
end Go.Nov
namespace Go.Nov
theorem Vg {s : SS} {l : List Ev} {i : Nat} (h : i < l.length) : s.play (l.drop i) = if s.errA (l.getD i Ev.nil) = 0 then (s.add (l.getD i Ev.nil)).play (l.drop (i + 1)) else none := by
 rw [List.drop_eq_getElem_cons h, qE h]
 rfl
theorem yk {s : SS} {e : Ev} (h : s.errA e = 0) : (s.add e).evs = s.evs ++ [e] ∧ s.evs.length < 1000 := by
 have h2 : s.evs.length < 1000 := by
  refine Decidable.byContradiction fun g => ?_
  unfold SS.errA at h
  split at h
  ·cases h
  split at h
  ·cases h
  ·rw [if_pos (by omega)] at h; cases h
 refine ⟨?_, h2⟩
 unfold SS.add
 rw [if_neg (by simpa using h)]
 split <;> rfl
theorem Z0 {l : List Ev} (h : ∀ e ∈ l, zC e) (i : Nat) : zC (l.getD i Ev.nil) := by
 by_cases hi : i < l.length
 ·rw [qE hi]; exact h _ (List.getElem_mem hi)
 ·have : l.getD i Ev.nil = Ev.nil := by simp [List.getD, List.getElem?_eq_none (Nat.le_of_not_lt hi)]
  rw [this]; exact ⟨by decide, by decide, by decide⟩
end Go.Nov
namespace Go.Nov
theorem WE : ∀ {l : List Ev} {s t : SS}, s.ok → s.evs.length ≤ 1000 → s.play l = some t → t.ok ∧ t.evs = s.evs ++ l ∧ t.evs.length ≤ 1000
 | [], s, t, ho, hl, h => by cases h; exact ⟨ho, by simp, hl⟩
 | e :: l, s, t, ho, hl, h => by
  simp only [SS.play] at h
  by_cases g : s.errA e = 0
  ·rw [if_pos g] at h
   obtain ⟨a1, a2⟩ := yk g
   obtain ⟨b1, b2, b3⟩ := WE (Jk ho e) (by rw [a1]; simp; omega) h
   exact ⟨b1, by rw [b2, a1]; simp, b3⟩
  ·rw [if_neg g] at h; cases h
theorem Jv : SS.ok ⟨[], []⟩ := ⟨rfl, fun _ _ h => by simp at h, fun _ h => by simp at h⟩
theorem Ui {l : List Ev} {t : SS} (h : SS.play ⟨[], []⟩ l = some t) : t.ok ∧ t.evs = l ∧ t.evs.length ≤ 1000 := by
 obtain ⟨a, b, c⟩ := WE Jv (by simp) h
 exact ⟨a, by simpa using b, c⟩
end Go.Nov
end

/- The store's state: corrections. -/
section
set_option maxRecDepth 100000
open Go Go.Sx Go.Proofs Go.Nov
namespace Go.Proofs.Try
attribute [local simp] eqKV eqA eqA0 eqH eqB eqL eqL0
def HSt (s : SS) : Heap := [.box [.osl 1 9 0 s.evs.length, .omap 2, .osl 3 9 0 s.lat.length], .arr s.evs.length 9 (evG s.evs), .map true [.inl .u8, .inr false, .inr false, .inl .i64] (zo s.lat) (zz s.lat), .arr s.lat.length 9 (evG s.lat)]
noncomputable def J9 : Ctr := inlC Try.prog noG 100 Try.f52
theorem QN : zf Try.prog 52 J9 := vu hmix z2 rfl rfl
def corC : Ctr := ctrM 1 (fun p : SS × Ev => [.ptr 0 0, p.2.av]) (fun p => HSt p.1) (fun p => p.1.ok ∧ p.1.lat.length ≤ 1000 ∧ 0 < p.2.target) (fun p (r : Int) => r = p.1.errC p.2) (fun p r => (.int .i64 r, HSt (p.1.cor p.2)))
noncomputable def GCo : Nat → Option Ctr := fun f => if f = 52 then some (J9) else none
theorem Uf : ∀ g c, GCo g = some c → zf Try.prog g c := okIf QN (z3)
theorem YZ : zf Try.prog 51 corC := by
 refine WA (fn := Try.f51) (c := Try.f51.body.getD .skip) rfl rfl rfl fun p hp O w0 σ0 Q hl0 hq => ?_
 obtain ⟨⟨evs, lat⟩, e⟩ := p
 obtain ⟨ho, hl, ht⟩ := hp
 replace hq := hq _ rfl
 simp only at hq ho hl ht
 refine zc.run hmix Uf [] 400 (T := .side (decide ((↑lat.length : Int) < Ev.target e) = false → inR .i64 (Ev.target e - (1 : Int))) (.side (decide ((↑lat.length : Int) < Ev.target e) = false → (0 : Int) ≤ Ev.target e - (1 : Int) ∧ Ev.target e - (1 : Int) < lat.length) (.ite (bif decide ((↑lat.length : Int) < Ev.target e) then true else decide (Ev.kind (List.getD lat (0 + Int.toNat (Ev.target e - (1 : Int))) Ev.nil) = (0 : Int))) (.leaf (.ret [.int .i64 6] [.box [.osl 1 9 0 evs.length, .omap 2, .osl 3 9 0 lat.length], .arr evs.length 9 (evG evs), Blk.map true [Sum.inl .u8, Sum.inr false, Sum.inr false, Sum.inl .i64] (zo lat) (zz lat), .arr lat.length 9 (evG lat), .box [.int .u8 e.kind, .int .i64 e.id, .int .i64 e.entry, .int .i64 e.target, .int .i64 e.date, .str e.zb, .str e.name, .str e.value, .bool e.first]])) (.side (inR .i64 (Ev.target e - (1 : Int))) (.side ((0 : Int) ≤ Ev.target e - (1 : Int) ∧ Ev.target e - (1 : Int) < lat.length) (.ite (decide (Ev.kind e = 5)) (.leaf (.ret [.int .i64 0] [.box [.osl 1 9 0 evs.length, .omap 2, .osl 3 9 0 lat.length], .arr evs.length 9 (evG evs), Blk.map true [Sum.inl .u8, Sum.inr false, Sum.inr false, Sum.inl .i64] (xC (zo lat) [Sum.inl (Ev.kind (List.getD (SS.lat { evs := evs, lat := lat }) (0 + Int.toNat (Ev.target e - (1 : Int))) Ev.nil)), Sum.inr (Ev.zb (List.getD (SS.lat { evs := evs, lat := lat }) (0 + Int.toNat (Ev.target e - (1 : Int))) Ev.nil)), Sum.inr (Ev.name (List.getD (SS.lat { evs := evs, lat := lat }) (0 + Int.toNat (Ev.target e - (1 : Int))) Ev.nil)), Sum.inl (Ev.date (List.getD (SS.lat { evs := evs, lat := lat }) (0 + Int.toNat (Ev.target e - (1 : Int))) Ev.nil))]) (zz lat), .arr lat.length 9 (updG (evG lat) (0 + Int.toNat (Ev.target e - (1 : Int))) 0 [.int .u8 0, .int .i64 0, .int .i64 0, .int .i64 0, .int .i64 0, .str (Array.toList #[]), .str (Array.toList #[]), .str (Array.toList #[]), .bool false]), .box [.int .u8 e.kind, .int .i64 e.id, .int .i64 e.entry, .int .i64 e.target, .int .i64 e.date, .str e.zb, .str e.name, .str e.value, .bool e.first], .box [.int .u8 (Ev.kind (List.getD lat (0 + Int.toNat (Ev.target e - (1 : Int))) Ev.nil)), .int .i64 (Ev.id (List.getD lat (0 + Int.toNat (Ev.target e - (1 : Int))) Ev.nil)), .int .i64 (Ev.entry (List.getD lat (0 + Int.toNat (Ev.target e - (1 : Int))) Ev.nil)), .int .i64 (Ev.target (List.getD lat (0 + Int.toNat (Ev.target e - (1 : Int))) Ev.nil)), .int .i64 (Ev.date (List.getD lat (0 + Int.toNat (Ev.target e - (1 : Int))) Ev.nil)), .str (Ev.zb (List.getD lat (0 + Int.toNat (Ev.target e - (1 : Int))) Ev.nil)), .str (Ev.name (List.getD lat (0 + Int.toNat (Ev.target e - (1 : Int))) Ev.nil)), .str (Ev.value (List.getD lat (0 + Int.toNat (Ev.target e - (1 : Int))) Ev.nil)), .bool (Ev.first (List.getD lat (0 + Int.toNat (Ev.target e - (1 : Int))) Ev.nil))], .box [.int .u8 (Ev.kind (List.getD lat (0 + Int.toNat (Ev.target e - (1 : Int))) Ev.nil)), .str (Ev.zb (List.getD lat (0 + Int.toNat (Ev.target e - (1 : Int))) Ev.nil)), .str (Ev.name (List.getD lat (0 + Int.toNat (Ev.target e - (1 : Int))) Ev.nil)), .int .i64 (Ev.date (List.getD lat (0 + Int.toNat (Ev.target e - (1 : Int))) Ev.nil))]])) (.ite (!decide (Ev.kind e = 3) == decide (Ev.kind (List.getD lat (0 + Int.toNat (Ev.target e - (1 : Int))) Ev.nil) = (1 : Int))) (.leaf (.ret [.int .i64 32] [.box [.osl 1 9 0 evs.length, .omap 2, .osl 3 9 0 lat.length], .arr evs.length 9 (evG evs), Blk.map true [Sum.inl .u8, Sum.inr false, Sum.inr false, Sum.inl .i64] (zo lat) (zz lat), .arr lat.length 9 (evG lat), .box [.int .u8 e.kind, .int .i64 e.id, .int .i64 e.entry, .int .i64 e.target, .int .i64 e.date, .str e.zb, .str e.name, .str e.value, .bool e.first]])) (.leaf (.ret [.int .i64 0] [.box [.osl 1 9 0 evs.length, .omap 2, .osl 3 9 0 lat.length], .arr evs.length 9 (evG evs), Blk.map true [Sum.inl .u8, Sum.inr false, Sum.inr false, Sum.inl .i64] (zo lat) (zz lat), .arr lat.length 9 (updG (updG (evG lat) (0 + Int.toNat (Ev.target e - (1 : Int))) 7 [.str e.value]) (0 + Int.toNat (Ev.target e - (1 : Int))) 8 [.bool e.first]), .box [.int .u8 e.kind, .int .i64 e.id, .int .i64 e.entry, .int .i64 e.target, .int .i64 e.date, .str e.zb, .str e.name, .str e.value, .bool e.first]]))))))))) (by kernel_rfl) ?_
 simp only [Tree.holds, ze]
 have ei : (e.target - 1).toNat = e.target.toNat - 1 := by omega
 simp only [ei, Nat.zero_add, inR, lo, hi]
 have hfx : SS.fact ⟨evs, lat⟩ e = lat.getD (e.target.toNat - 1) Ev.nil := rfl
 have fin : ∀ (r : Int) (h : Heap) (b1 b2 b3 b4 : Blk) (rest : Heap), h = b1 :: b2 :: b3 :: b4 :: rest → r = SS.errC ⟨evs, lat⟩ e → eqH (expH (b1 :: b2 :: b3 :: b4 :: rest) [0, 1, 2, 3]) (HSt (SS.cor ⟨evs, lat⟩ e)) → RetR corC 4 Q [.int .i64 r] h := by
  rintro r h b1 b2 b3 b4 rest rfl rfl he
  exact RetR.keep [0, 1, 2, 3] rfl (by simp) (by show ∀ j, j < 4 → _; decide) rfl hq (by simp [resV, exp2, exp1, exp0, ren0, eqA2, eqL1]) he rfl
 refine ⟨fun h => by have := of_decide_eq_false h; omega, fun _ => ⟨fun h => by have := of_decide_eq_false h; omega, fun _ => ⟨fun h => ?_, fun h => ?_⟩⟩⟩
 ·have h6 : SS.errC ⟨evs, lat⟩ e = 6 := by
   unfold SS.errC
   rw [if_pos]
   rw [hfx]
   cases hd : decide ((lat.length : Int) < e.target) with
   | true => exact .inl (of_decide_eq_true hd)
   | false => rw [hd] at h; exact .inr (of_decide_eq_true h)
  refine fin _ _ _ _ _ _ _ rfl h6.symm ?_
  unfold SS.cor
  rw [if_neg (by rw [h6]; decide)]
  simp [expH, expB, exp1, exp0, ren0, zw, HSt, za]
 ·have h6 : ¬ ((lat.length : Int) < e.target ∨ (SS.fact ⟨evs, lat⟩ e).kind = 0) := by
   rw [hfx]
   cases hd : decide ((lat.length : Int) < e.target) with
   | true => rw [hd] at h; cases h
   | false =>
    rw [hd] at h
    rintro (g | g)
    ·exact absurd g (of_decide_eq_false hd)
    ·exact absurd g (of_decide_eq_false h)
  have hlt : (e.target : Int) ≤ lat.length := by omega
  have hil : e.target.toNat - 1 < lat.length := by omega
  have hk0 : (lat.getD (e.target.toNat - 1) Ev.nil).kind ≠ 0 := fun g => h6 (.inr (by rw [hfx]; exact g))
  refine ⟨by omega, fun _ => ⟨by omega, fun _ => ⟨fun h5 => ?_, fun h5 => ⟨fun h3 => ?_, fun h3 => ?_⟩⟩⟩⟩
  ·have h5 : e.kind = 5 := of_decide_eq_true h5
   have hr : SS.errC ⟨evs, lat⟩ e = 0 := by unfold SS.errC; rw [if_neg h6, if_pos h5]
   refine fin _ _ _ _ _ _ _ rfl hr.symm ?_
   have hc : SS.cor ⟨evs, lat⟩ e = ⟨evs, lat.set (e.target.toNat - 1) Ev.nil⟩ := by unfold SS.cor SS.fixed; rw [if_pos hr, if_pos h5]
   rw [hc]
   refine ⟨by simp [expB, exp1, exp0, ren0, zw], by simp [expB, za], ⟨⟨rfl, .inl rfl⟩, rfl, fun k => Xw ho hil hk0 k, fun k hk => ?_⟩, ⟨by simp, rfl, Kd hil ?_ ?_⟩, trivial⟩
   ·refine Vz ho hil ?_
    rw [← Xw ho hil hk0 k]
    exact hk
   ·intro o ho
    simp only [updG]
    rcases (show o = 0 ∨ o = 1 ∨ o = 2 ∨ o = 3 ∨ o = 4 ∨ o = 5 ∨ o = 6 ∨ o = 7 ∨ o = 8 by omega) with rfl | rfl | rfl | rfl | rfl | rfl | rfl | rfl | rfl <;> rfl
   ·intro j o hj
    simp only [updG]
    rw [if_neg (fun g => hj g.1)]
  ·have h5 : ¬ e.kind = 5 := of_decide_eq_false h5
   have h32 : decide (e.kind = 3) ≠ decide ((SS.fact ⟨evs, lat⟩ e).kind = 1) := by
    rw [hfx]; intro g; rw [g] at h3; simp at h3
   have hr : SS.errC ⟨evs, lat⟩ e = 32 := by unfold SS.errC; rw [if_neg h6, if_neg h5, if_pos h32]
   refine fin _ _ _ _ _ _ _ rfl hr.symm ?_
   unfold SS.cor
   rw [if_neg (by rw [hr]; decide)]
   simp [expH, expB, exp1, exp0, ren0, zw, HSt, za]
  ·have h5 : ¬ e.kind = 5 := of_decide_eq_false h5
   have h32 : ¬ decide (e.kind = 3) ≠ decide ((SS.fact ⟨evs, lat⟩ e).kind = 1) := by
    rw [hfx]; intro g
    generalize decide (e.kind = 3) = x at h3 g
    generalize decide ((lat.getD (e.target.toNat - 1) Ev.nil).kind = 1) = y at h3 g
    cases x <;> cases y <;> simp at h3 g
   have hr : SS.errC ⟨evs, lat⟩ e = 0 := by unfold SS.errC; rw [if_neg h6, if_neg h5, if_neg h32]
   refine fin _ _ _ _ _ _ _ rfl hr.symm ?_
   have hc : SS.cor ⟨evs, lat⟩ e = ⟨evs, lat.set (e.target.toNat - 1) { lat.getD (e.target.toNat - 1) Ev.nil with value := e.value, first := e.first }⟩ := by unfold SS.cor SS.fixed; rw [if_pos hr, if_neg h5]; rfl
   rw [hc]
   have lv := fun k => YK (l := lat) (i := e.target.toNat - 1) (y := { lat.getD (e.target.toNat - 1) Ev.nil with value := e.value, first := e.first }) hil rfl rfl k
   refine ⟨by simp [expB, exp1, exp0, ren0, zw], by simp [expB, za], ⟨⟨rfl, .inl rfl⟩, rfl, fun k => (lv k).1, fun k _ => (lv k).2⟩, ⟨by simp, rfl, Kd hil ?_ ?_⟩, trivial⟩
   ·intro o ho
    simp only [updG]
    rcases (show o = 0 ∨ o = 1 ∨ o = 2 ∨ o = 3 ∨ o = 4 ∨ o = 5 ∨ o = 6 ∨ o = 7 ∨ o = 8 by omega) with rfl | rfl | rfl | rfl | rfl | rfl | rfl | rfl | rfl <;> rfl
   ·intro j o hj
    simp only [updG]
    rw [if_neg (fun g => hj g.1), if_neg (fun g => hj g.1)]
end Go.Proofs.Try
end

/- The store's state: events added. -/
section
set_option maxRecDepth 100000
open Go Go.Sx Go.Proofs Go.Nov
namespace Go.Proofs.Try
attribute [local simp] eqKV eqA eqA0 eqH eqB eqL eqL0
theorem jo {A B : Prop} (ha : A) (hb : B) : (∃ _ : Bool, True) ∧ ∀ n : Bool, True → (n = true → A) ∧ (n = false → B) := ⟨⟨true, trivial⟩, fun _ _ => ⟨fun _ => ha, fun _ => hb⟩⟩
theorem wT (x y : Bool) : (bif x then y else false) = (x && y) := by cases x <;> rfl
def addC : Ctr := ctrM 1 (fun p : SS × Ev => [.ptr 0 0, p.2.av]) (fun p => HSt p.1) (fun p => p.1.ok ∧ p.1.evs.length ≤ 1000 ∧ zC p.2) (fun p (r : Int) => r = p.1.errA p.2) (fun p r => (.int .i64 r, HSt (p.1.add p.2)))
noncomputable def GAd : Nat → Option Ctr := fun f => if f = 52 then some (J9) else if f = 51 then some (corC) else if f = 50 then some (yo) else none
theorem YR : ∀ g c, GAd g = some c → zf Try.prog g c := okIf QN (okIf YZ (okIf V6 (z3)))
theorem WQ : zf Try.prog 30 addC := by
 refine WA (fn := Try.f30) (c := Try.f30.body.getD .skip) rfl rfl rfl fun p hp O w0 σ0 Q hl0 hq => ?_
 obtain ⟨⟨evs, lat⟩, e⟩ := p
 obtain ⟨ho, hl, hs⟩ := hp
 replace hq := hq _ rfl
 simp only at hq ho hl hs
 refine zc.run hmix YR [] 400 (T := .ex (fun (x : Ev) => eqL [AV.agg [AV.int .u8 e.kind, AV.int .i64 e.id, AV.int .i64 e.entry, AV.int .i64 e.target, AV.int .i64 e.date, AV.str e.zb, AV.str e.name, AV.str e.value, AV.bool e.first]] [AV.agg [AV.int .u8 x.kind, AV.int .i64 x.id, AV.int .i64 x.entry, AV.int .i64 x.target, AV.int .i64 x.date, AV.str x.zb, AV.str x.name, AV.str x.value, AV.bool x.first]] ∧ zC x) fun n => .all (fun (r : Int) => r = if Ev.valid n = true then (0 : Int) else (8 : Int)) fun n => .side ((!decide (n = 0)) = false → inR .i64 ((↑evs.length : Int) + (1 : Int))) (.ite (bif !decide (n = 0) then true else !decide (Ev.id e = (↑evs.length : Int) + (1 : Int))) (.leaf (.ret [.int .i64 2] [.box [.osl 1 9 0 evs.length, .omap 2, .osl 3 9 0 lat.length], .arr evs.length 9 (evG evs), Blk.map true [Sum.inl .u8, Sum.inr false, Sum.inr false, Sum.inl .i64] (zo lat) (zz lat), .arr lat.length 9 (evG lat), .box [.int .u8 e.kind, .int .i64 e.id, .int .i64 e.entry, .int .i64 e.target, .int .i64 e.date, .str e.zb, .str e.name, .str e.value, .bool e.first]])) (.side (decide ((0 : Int) < evs.length) = true → inR .i64 ((↑evs.length : Int) - (1 : Int))) (.side (decide ((0 : Int) < evs.length) = true → (0 : Int) ≤ evs.length - (1 : Int) ∧ (↑evs.length : Int) - (1 : Int) < evs.length) (.ite (bif decide ((0 : Int) < evs.length) then decide (Ev.entry e < Ev.entry (List.getD evs (0 + Int.toNat ((↑evs.length : Int) - (1 : Int))) Ev.nil)) else false) (.leaf (.ret [.int .i64 21] [.box [.osl 1 9 0 evs.length, .omap 2, .osl 3 9 0 lat.length], .arr evs.length 9 (evG evs), Blk.map true [Sum.inl .u8, Sum.inr false, Sum.inr false, Sum.inl .i64] (zo lat) (zz lat), .arr lat.length 9 (evG lat), .box [.int .u8 e.kind, .int .i64 e.id, .int .i64 e.entry, .int .i64 e.target, .int .i64 e.date, .str e.zb, .str e.name, .str e.value, .bool e.first]])) (.ite (decide ((1000 : Int) ≤ evs.length)) (.leaf (.ret [.int .i64 22] [.box [.osl 1 9 0 evs.length, .omap 2, .osl 3 9 0 lat.length], .arr evs.length 9 (evG evs), Blk.map true [Sum.inl .u8, Sum.inr false, Sum.inr false, Sum.inl .i64] (zo lat) (zz lat), .arr lat.length 9 (evG lat), .box [.int .u8 e.kind, .int .i64 e.id, .int .i64 e.entry, .int .i64 e.target, .int .i64 e.date, .str e.zb, .str e.name, .str e.value, .bool e.first]])) (.ite (decide ((0 : Int) < Ev.target e)) (.ex (fun (x : SS × Ev) => eqL [AV.ptr 0 0, AV.agg [AV.int .u8 e.kind, AV.int .i64 e.id, AV.int .i64 e.entry, AV.int .i64 e.target, AV.int .i64 e.date, AV.str e.zb, AV.str e.name, AV.str e.value, AV.bool e.first]] [AV.ptr 0 0, AV.agg [AV.int .u8 x.2.kind, AV.int .i64 x.2.id, AV.int .i64 x.2.entry, AV.int .i64 x.2.target, AV.int .i64 x.2.date, AV.str x.2.zb, AV.str x.2.name, AV.str x.2.value, AV.bool x.2.first]] ∧ eqH [.box [AV.osl 1 9 0 evs.length, AV.omap 2, AV.osl 3 9 0 lat.length], .arr evs.length 9 (evG evs), Blk.map true [Sum.inl .u8, Sum.inr false, Sum.inr false, Sum.inl .i64] (zo lat) (zz lat), .arr lat.length 9 (evG lat)] [.box [AV.osl 1 9 0 (List.length (SS.evs x.1)), AV.omap 2, AV.osl 3 9 0 (List.length (SS.lat x.1))], .arr (List.length (SS.evs x.1)) 9 (evG (SS.evs x.1)), Blk.map true [Sum.inl .u8, Sum.inr false, Sum.inr false, Sum.inl .i64] (zo (SS.lat x.1)) (zz (SS.lat x.1)), .arr (List.length (SS.lat x.1)) 9 (evG (SS.lat x.1))] ∧ 4 = 4 ∧ SS.ok x.1 ∧ List.length (SS.lat x.1) ≤ 1000 ∧ (0 : Int) < Ev.target x.2) fun n => .all (fun (r : Int) => r = SS.errC n.1 n.2) fun n_1 => .ite (!decide (n_1 = 0)) (.leaf (.ret [.int .i64 n_1] [.box [.osl 1 9 0 (List.length (SS.evs (SS.cor n.1 n.2))), .omap 2, .osl 3 9 0 (List.length (SS.lat (SS.cor n.1 n.2)))], .arr (List.length (SS.evs (SS.cor n.1 n.2))) 9 (evG (SS.evs (SS.cor n.1 n.2))), Blk.map true [Sum.inl .u8, Sum.inr false, Sum.inr false, Sum.inl .i64] (zo (SS.lat (SS.cor n.1 n.2))) (zz (SS.lat (SS.cor n.1 n.2))), .arr (List.length (SS.lat (SS.cor n.1 n.2))) 9 (evG (SS.lat (SS.cor n.1 n.2))), .box [.int .u8 e.kind, .int .i64 e.id, .int .i64 e.entry, .int .i64 e.target, .int .i64 e.date, .str e.zb, .str e.name, .str e.value, .bool e.first], .box [.int .u8 0, .int .i64 0, .int .i64 0, .int .i64 0, .int .i64 0, .str (Array.toList #[]), .str (Array.toList #[]), .str (Array.toList #[]), .bool false]])) (.all (fun (x : Bool) => True) fun n_2 => .ite n_2 (.all (fun (x : Bool) => True) fun n_3 => .ite n_3 (.side (0 = 0 ∧ List.length (SS.evs (SS.cor n.1 n.2)) ≤ List.length (SS.evs (SS.cor n.1 n.2)) ∧ (List.length (SS.evs (SS.cor n.1 n.2)) + 1) * 96 ≤ 140737488355328) (.side (0 = 0 ∧ List.length (SS.lat (SS.cor n.1 n.2)) = List.length (SS.lat (SS.cor n.1 n.2))) (.side (0 = 0 ∧ List.length (SS.lat (SS.cor n.1 n.2)) ≤ List.length (SS.lat (SS.cor n.1 n.2)) ∧ (List.length (SS.lat (SS.cor n.1 n.2)) + 1) * 96 ≤ 140737488355328) (.leaf (.ret [.int .i64 0] [.box [.osl 1 9 0 (List.length (SS.evs (SS.cor n.1 n.2)) + 1), .omap 2, .osl 3 9 0 (List.length (SS.lat (SS.cor n.1 n.2)) + 1)], .arr (List.length (SS.evs (SS.cor n.1 n.2)) + 1) 9 (appG (List.length (SS.evs (SS.cor n.1 n.2))) (evG (SS.evs (SS.cor n.1 n.2))) (zg (zd 9 [.int .u8 e.kind, .int .i64 e.id, .int .i64 e.entry, .int .i64 e.target, .int .i64 e.date, .str e.zb, .str e.name, .str e.value, .bool e.first]) 0)), Blk.map true [Sum.inl .u8, Sum.inr false, Sum.inr false, Sum.inl .i64] (zo (SS.lat (SS.cor n.1 n.2))) (zz (SS.lat (SS.cor n.1 n.2))), .arr (List.length (SS.lat (SS.cor n.1 n.2)) + 1) 9 (appG (List.length (SS.lat (SS.cor n.1 n.2))) (evG (SS.lat (SS.cor n.1 n.2))) (zg (zd 9 [.int .u8 0, .int .i64 0, .int .i64 0, .int .i64 0, .int .i64 0, .str (Array.toList #[]), .str (Array.toList #[]), .str (Array.toList #[]), .bool false]) 0)), .box [.int .u8 e.kind, .int .i64 e.id, .int .i64 e.entry, .int .i64 e.target, .int .i64 e.date, .str e.zb, .str e.name, .str e.value, .bool e.first], .box [.int .u8 0, .int .i64 0, .int .i64 0, .int .i64 0, .int .i64 0, .str (Array.toList #[]), .str (Array.toList #[]), .str (Array.toList #[]), .bool false], .arr 1 9 (zd 9 [.int .u8 e.kind, .int .i64 e.id, .int .i64 e.entry, .int .i64 e.target, .int .i64 e.date, .str e.zb, .str e.name, .str e.value, .bool e.first]), .arr 1 9 (zd 9 [.int .u8 0, .int .i64 0, .int .i64 0, .int .i64 0, .int .i64 0, .str (Array.toList #[]), .str (Array.toList #[]), .str (Array.toList #[]), .bool false])]))))) (.side (0 = 0 ∧ List.length (SS.evs (SS.cor n.1 n.2)) ≤ List.length (SS.evs (SS.cor n.1 n.2)) ∧ (List.length (SS.evs (SS.cor n.1 n.2)) + 1) * 96 ≤ 140737488355328) (.side (0 = 0 ∧ List.length (SS.lat (SS.cor n.1 n.2)) = List.length (SS.lat (SS.cor n.1 n.2))) (.side (0 = 0 ∧ List.length (SS.lat (SS.cor n.1 n.2)) ≤ List.length (SS.lat (SS.cor n.1 n.2)) ∧ (List.length (SS.lat (SS.cor n.1 n.2)) + 1) * 96 ≤ 140737488355328) (.leaf (.ret [.int .i64 0] [.box [.osl 1 9 0 (List.length (SS.evs (SS.cor n.1 n.2)) + 1), .omap 2, .osl 3 9 0 (List.length (SS.lat (SS.cor n.1 n.2)) + 1)], .arr (List.length (SS.evs (SS.cor n.1 n.2)) + 1) 9 (appG (List.length (SS.evs (SS.cor n.1 n.2))) (evG (SS.evs (SS.cor n.1 n.2))) (zg (zd 9 [.int .u8 e.kind, .int .i64 e.id, .int .i64 e.entry, .int .i64 e.target, .int .i64 e.date, .str e.zb, .str e.name, .str e.value, .bool e.first]) 0)), Blk.map true [Sum.inl .u8, Sum.inr false, Sum.inr false, Sum.inl .i64] (zo (SS.lat (SS.cor n.1 n.2))) (zz (SS.lat (SS.cor n.1 n.2))), .arr (List.length (SS.lat (SS.cor n.1 n.2)) + 1) 9 (appG (List.length (SS.lat (SS.cor n.1 n.2))) (evG (SS.lat (SS.cor n.1 n.2))) (zg (zd 9 [.int .u8 0, .int .i64 0, .int .i64 0, .int .i64 0, .int .i64 0, .str (Array.toList #[]), .str (Array.toList #[]), .str (Array.toList #[]), .bool false]) 0)), .box [.int .u8 e.kind, .int .i64 e.id, .int .i64 e.entry, .int .i64 e.target, .int .i64 e.date, .str e.zb, .str e.name, .str e.value, .bool e.first], .box [.int .u8 0, .int .i64 0, .int .i64 0, .int .i64 0, .int .i64 0, .str (Array.toList #[]), .str (Array.toList #[]), .str (Array.toList #[]), .bool false], .arr 1 9 (zd 9 [.int .u8 e.kind, .int .i64 e.id, .int .i64 e.entry, .int .i64 e.target, .int .i64 e.date, .str e.zb, .str e.name, .str e.value, .bool e.first]), .arr 1 9 (zd 9 [.int .u8 0, .int .i64 0, .int .i64 0, .int .i64 0, .int .i64 0, .str (Array.toList #[]), .str (Array.toList #[]), .str (Array.toList #[]), .bool false])])))))) (.side (0 = 0 ∧ List.length (SS.evs (SS.cor n.1 n.2)) ≤ List.length (SS.evs (SS.cor n.1 n.2)) ∧ (List.length (SS.evs (SS.cor n.1 n.2)) + 1) * 96 ≤ 140737488355328) (.side (0 = 0 ∧ List.length (SS.lat (SS.cor n.1 n.2)) = List.length (SS.lat (SS.cor n.1 n.2))) (.side (0 = 0 ∧ List.length (SS.lat (SS.cor n.1 n.2)) ≤ List.length (SS.lat (SS.cor n.1 n.2)) ∧ (List.length (SS.lat (SS.cor n.1 n.2)) + 1) * 96 ≤ 140737488355328) (.leaf (.ret [.int .i64 0] [.box [.osl 1 9 0 (List.length (SS.evs (SS.cor n.1 n.2)) + 1), .omap 2, .osl 3 9 0 (List.length (SS.lat (SS.cor n.1 n.2)) + 1)], .arr (List.length (SS.evs (SS.cor n.1 n.2)) + 1) 9 (appG (List.length (SS.evs (SS.cor n.1 n.2))) (evG (SS.evs (SS.cor n.1 n.2))) (zg (zd 9 [.int .u8 e.kind, .int .i64 e.id, .int .i64 e.entry, .int .i64 e.target, .int .i64 e.date, .str e.zb, .str e.name, .str e.value, .bool e.first]) 0)), Blk.map true [Sum.inl .u8, Sum.inr false, Sum.inr false, Sum.inl .i64] (zo (SS.lat (SS.cor n.1 n.2))) (zz (SS.lat (SS.cor n.1 n.2))), .arr (List.length (SS.lat (SS.cor n.1 n.2)) + 1) 9 (appG (List.length (SS.lat (SS.cor n.1 n.2))) (evG (SS.lat (SS.cor n.1 n.2))) (zg (zd 9 [.int .u8 0, .int .i64 0, .int .i64 0, .int .i64 0, .int .i64 0, .str (Array.toList #[]), .str (Array.toList #[]), .str (Array.toList #[]), .bool false]) 0)), .box [.int .u8 e.kind, .int .i64 e.id, .int .i64 e.entry, .int .i64 e.target, .int .i64 e.date, .str e.zb, .str e.name, .str e.value, .bool e.first], .box [.int .u8 0, .int .i64 0, .int .i64 0, .int .i64 0, .int .i64 0, .str (Array.toList #[]), .str (Array.toList #[]), .str (Array.toList #[]), .bool false], .arr 1 9 (zd 9 [.int .u8 0, .int .i64 0, .int .i64 0, .int .i64 0, .int .i64 0, .str (Array.toList #[]), .str (Array.toList #[]), .str (Array.toList #[]), .bool false]), .arr 1 9 (zd 9 [.int .u8 e.kind, .int .i64 e.id, .int .i64 e.entry, .int .i64 e.target, .int .i64 e.date, .str e.zb, .str e.name, .str e.value, .bool e.first])]))))))) (.ite (zo lat [Sum.inl e.kind, Sum.inr e.zb, Sum.inr e.name, Sum.inl e.date]) (.ite (decide ((0 : Int) < (↑(List.findIdx (Ev.qR [Sum.inl e.kind, Sum.inr e.zb, Sum.inr e.name, Sum.inl e.date]) lat) : Int) + (1 : Int))) (.leaf (.ret [.int .i64 24] [.box [.osl 1 9 0 evs.length, .omap 2, .osl 3 9 0 lat.length], .arr evs.length 9 (evG evs), Blk.map true [Sum.inl .u8, Sum.inr false, Sum.inr false, Sum.inl .i64] (zo lat) (zz lat), .arr lat.length 9 (evG lat), .box [.int .u8 e.kind, .int .i64 e.id, .int .i64 e.entry, .int .i64 e.target, .int .i64 e.date, .str e.zb, .str e.name, .str e.value, .bool e.first], .box [.int .u8 0, .int .i64 0, .int .i64 0, .int .i64 0, .int .i64 0, .str (Array.toList #[]), .str (Array.toList #[]), .str (Array.toList #[]), .bool false], .box [.int .u8 e.kind, .int .i64 e.id, .int .i64 e.entry, .int .i64 e.target, .int .i64 e.date, .str e.zb, .str e.name, .str e.value, .bool e.first], .box [.int .u8 e.kind, .str e.zb, .str e.name, .int .i64 e.date]])) (.all (fun (x : Int) => True) fun n => .side (n = n) (.all (fun (x : Bool) => True) fun n => .ite n (.all (fun (x : Bool) => True) fun n => .ite n (.side (0 = 0 ∧ evs.length ≤ evs.length ∧ (evs.length + 1) * 96 ≤ 140737488355328) (.side (0 = 0 ∧ lat.length = lat.length) (.side (0 = 0 ∧ lat.length ≤ lat.length ∧ (lat.length + 1) * 96 ≤ 140737488355328) (.leaf (.ret [.int .i64 0] [.box [.osl 1 9 0 (evs.length + 1), .omap 2, .osl 3 9 0 (lat.length + 1)], .arr (evs.length + 1) 9 (appG evs.length (evG evs) (zg (zd 9 [.int .u8 e.kind, .int .i64 e.id, .int .i64 e.entry, .int .i64 e.target, .int .i64 e.date, .str e.zb, .str e.name, .str e.value, .bool e.first]) 0)), Blk.map true [Sum.inl .u8, Sum.inr false, Sum.inr false, Sum.inl .i64] (qK (zo lat) [Sum.inl e.kind, Sum.inr e.zb, Sum.inr e.name, Sum.inl e.date]) (z7 (z7 (zz lat) [Sum.inl e.kind, Sum.inr e.zb, Sum.inr e.name, Sum.inl e.date] .undef) [Sum.inl e.kind, Sum.inr e.zb, Sum.inr e.name, Sum.inl e.date] (.int .i64 e.id)), .arr (lat.length + 1) 9 (appG lat.length (evG lat) (zg (zd 9 [.int .u8 e.kind, .int .i64 e.id, .int .i64 e.entry, .int .i64 e.target, .int .i64 e.date, .str e.zb, .str e.name, .str e.value, .bool e.first]) 0)), .box [.int .u8 e.kind, .int .i64 e.id, .int .i64 e.entry, .int .i64 e.target, .int .i64 e.date, .str e.zb, .str e.name, .str e.value, .bool e.first], .box [.int .u8 e.kind, .int .i64 e.id, .int .i64 e.entry, .int .i64 e.target, .int .i64 e.date, .str e.zb, .str e.name, .str e.value, .bool e.first], .box [.int .u8 e.kind, .int .i64 e.id, .int .i64 e.entry, .int .i64 e.target, .int .i64 e.date, .str e.zb, .str e.name, .str e.value, .bool e.first], .box [.int .u8 e.kind, .str e.zb, .str e.name, .int .i64 e.date], .box [.int .u8 e.kind, .int .i64 e.id, .int .i64 e.entry, .int .i64 e.target, .int .i64 e.date, .str e.zb, .str e.name, .str e.value, .bool e.first], .box [.int .u8 e.kind, .str e.zb, .str e.name, .int .i64 e.date], .arr 1 9 (zd 9 [.int .u8 e.kind, .int .i64 e.id, .int .i64 e.entry, .int .i64 e.target, .int .i64 e.date, .str e.zb, .str e.name, .str e.value, .bool e.first]), .arr 1 9 (zd 9 [.int .u8 e.kind, .int .i64 e.id, .int .i64 e.entry, .int .i64 e.target, .int .i64 e.date, .str e.zb, .str e.name, .str e.value, .bool e.first])]))))) (.side (0 = 0 ∧ evs.length ≤ evs.length ∧ (evs.length + 1) * 96 ≤ 140737488355328) (.side (0 = 0 ∧ lat.length = lat.length) (.side (0 = 0 ∧ lat.length ≤ lat.length ∧ (lat.length + 1) * 96 ≤ 140737488355328) (.leaf (.ret [.int .i64 0] [.box [.osl 1 9 0 (evs.length + 1), .omap 2, .osl 3 9 0 (lat.length + 1)], .arr (evs.length + 1) 9 (appG evs.length (evG evs) (zg (zd 9 [.int .u8 e.kind, .int .i64 e.id, .int .i64 e.entry, .int .i64 e.target, .int .i64 e.date, .str e.zb, .str e.name, .str e.value, .bool e.first]) 0)), Blk.map true [Sum.inl .u8, Sum.inr false, Sum.inr false, Sum.inl .i64] (qK (zo lat) [Sum.inl e.kind, Sum.inr e.zb, Sum.inr e.name, Sum.inl e.date]) (z7 (z7 (zz lat) [Sum.inl e.kind, Sum.inr e.zb, Sum.inr e.name, Sum.inl e.date] .undef) [Sum.inl e.kind, Sum.inr e.zb, Sum.inr e.name, Sum.inl e.date] (.int .i64 e.id)), .arr (lat.length + 1) 9 (appG lat.length (evG lat) (zg (zd 9 [.int .u8 e.kind, .int .i64 e.id, .int .i64 e.entry, .int .i64 e.target, .int .i64 e.date, .str e.zb, .str e.name, .str e.value, .bool e.first]) 0)), .box [.int .u8 e.kind, .int .i64 e.id, .int .i64 e.entry, .int .i64 e.target, .int .i64 e.date, .str e.zb, .str e.name, .str e.value, .bool e.first], .box [.int .u8 e.kind, .int .i64 e.id, .int .i64 e.entry, .int .i64 e.target, .int .i64 e.date, .str e.zb, .str e.name, .str e.value, .bool e.first], .box [.int .u8 e.kind, .int .i64 e.id, .int .i64 e.entry, .int .i64 e.target, .int .i64 e.date, .str e.zb, .str e.name, .str e.value, .bool e.first], .box [.int .u8 e.kind, .str e.zb, .str e.name, .int .i64 e.date], .box [.int .u8 e.kind, .int .i64 e.id, .int .i64 e.entry, .int .i64 e.target, .int .i64 e.date, .str e.zb, .str e.name, .str e.value, .bool e.first], .box [.int .u8 e.kind, .str e.zb, .str e.name, .int .i64 e.date], .arr 1 9 (zd 9 [.int .u8 e.kind, .int .i64 e.id, .int .i64 e.entry, .int .i64 e.target, .int .i64 e.date, .str e.zb, .str e.name, .str e.value, .bool e.first]), .arr 1 9 (zd 9 [.int .u8 e.kind, .int .i64 e.id, .int .i64 e.entry, .int .i64 e.target, .int .i64 e.date, .str e.zb, .str e.name, .str e.value, .bool e.first])])))))) (.side (0 = 0 ∧ evs.length ≤ evs.length ∧ (evs.length + 1) * 96 ≤ 140737488355328) (.side (0 = 0 ∧ lat.length = lat.length) (.side (0 = 0 ∧ lat.length ≤ lat.length ∧ (lat.length + 1) * 96 ≤ 140737488355328) (.leaf (.ret [.int .i64 0] [.box [.osl 1 9 0 (evs.length + 1), .omap 2, .osl 3 9 0 (lat.length + 1)], .arr (evs.length + 1) 9 (appG evs.length (evG evs) (zg (zd 9 [.int .u8 e.kind, .int .i64 e.id, .int .i64 e.entry, .int .i64 e.target, .int .i64 e.date, .str e.zb, .str e.name, .str e.value, .bool e.first]) 0)), Blk.map true [Sum.inl .u8, Sum.inr false, Sum.inr false, Sum.inl .i64] (qK (zo lat) [Sum.inl e.kind, Sum.inr e.zb, Sum.inr e.name, Sum.inl e.date]) (z7 (z7 (zz lat) [Sum.inl e.kind, Sum.inr e.zb, Sum.inr e.name, Sum.inl e.date] .undef) [Sum.inl e.kind, Sum.inr e.zb, Sum.inr e.name, Sum.inl e.date] (.int .i64 e.id)), .arr (lat.length + 1) 9 (appG lat.length (evG lat) (zg (zd 9 [.int .u8 e.kind, .int .i64 e.id, .int .i64 e.entry, .int .i64 e.target, .int .i64 e.date, .str e.zb, .str e.name, .str e.value, .bool e.first]) 0)), .box [.int .u8 e.kind, .int .i64 e.id, .int .i64 e.entry, .int .i64 e.target, .int .i64 e.date, .str e.zb, .str e.name, .str e.value, .bool e.first], .box [.int .u8 e.kind, .int .i64 e.id, .int .i64 e.entry, .int .i64 e.target, .int .i64 e.date, .str e.zb, .str e.name, .str e.value, .bool e.first], .box [.int .u8 e.kind, .int .i64 e.id, .int .i64 e.entry, .int .i64 e.target, .int .i64 e.date, .str e.zb, .str e.name, .str e.value, .bool e.first], .box [.int .u8 e.kind, .str e.zb, .str e.name, .int .i64 e.date], .box [.int .u8 e.kind, .int .i64 e.id, .int .i64 e.entry, .int .i64 e.target, .int .i64 e.date, .str e.zb, .str e.name, .str e.value, .bool e.first], .box [.int .u8 e.kind, .str e.zb, .str e.name, .int .i64 e.date], .arr 1 9 (zd 9 [.int .u8 e.kind, .int .i64 e.id, .int .i64 e.entry, .int .i64 e.target, .int .i64 e.date, .str e.zb, .str e.name, .str e.value, .bool e.first]), .arr 1 9 (zd 9 [.int .u8 e.kind, .int .i64 e.id, .int .i64 e.entry, .int .i64 e.target, .int .i64 e.date, .str e.zb, .str e.name, .str e.value, .bool e.first])])))))))) (.ite false (.leaf (.ret [.int .i64 24] [.box [.osl 1 9 0 evs.length, .omap 2, .osl 3 9 0 lat.length], .arr evs.length 9 (evG evs), Blk.map true [Sum.inl .u8, Sum.inr false, Sum.inr false, Sum.inl .i64] (zo lat) (zz lat), .arr lat.length 9 (evG lat), .box [.int .u8 e.kind, .int .i64 e.id, .int .i64 e.entry, .int .i64 e.target, .int .i64 e.date, .str e.zb, .str e.name, .str e.value, .bool e.first], .box [.int .u8 0, .int .i64 0, .int .i64 0, .int .i64 0, .int .i64 0, .str (Array.toList #[]), .str (Array.toList #[]), .str (Array.toList #[]), .bool false], .box [.int .u8 e.kind, .int .i64 e.id, .int .i64 e.entry, .int .i64 e.target, .int .i64 e.date, .str e.zb, .str e.name, .str e.value, .bool e.first], .box [.int .u8 e.kind, .str e.zb, .str e.name, .int .i64 e.date]])) (.all (fun (x : Int) => True) fun n => .side (n = n) (.all (fun (x : Bool) => True) fun n => .ite n (.all (fun (x : Bool) => True) fun n => .ite n (.side (0 = 0 ∧ evs.length ≤ evs.length ∧ (evs.length + 1) * 96 ≤ 140737488355328) (.side (0 = 0 ∧ lat.length = lat.length) (.side (0 = 0 ∧ lat.length ≤ lat.length ∧ (lat.length + 1) * 96 ≤ 140737488355328) (.leaf (.ret [.int .i64 0] [.box [.osl 1 9 0 (evs.length + 1), .omap 2, .osl 3 9 0 (lat.length + 1)], .arr (evs.length + 1) 9 (appG evs.length (evG evs) (zg (zd 9 [.int .u8 e.kind, .int .i64 e.id, .int .i64 e.entry, .int .i64 e.target, .int .i64 e.date, .str e.zb, .str e.name, .str e.value, .bool e.first]) 0)), Blk.map true [Sum.inl .u8, Sum.inr false, Sum.inr false, Sum.inl .i64] (qK (zo lat) [Sum.inl e.kind, Sum.inr e.zb, Sum.inr e.name, Sum.inl e.date]) (z7 (z7 (zz lat) [Sum.inl e.kind, Sum.inr e.zb, Sum.inr e.name, Sum.inl e.date] .undef) [Sum.inl e.kind, Sum.inr e.zb, Sum.inr e.name, Sum.inl e.date] (.int .i64 e.id)), .arr (lat.length + 1) 9 (appG lat.length (evG lat) (zg (zd 9 [.int .u8 e.kind, .int .i64 e.id, .int .i64 e.entry, .int .i64 e.target, .int .i64 e.date, .str e.zb, .str e.name, .str e.value, .bool e.first]) 0)), .box [.int .u8 e.kind, .int .i64 e.id, .int .i64 e.entry, .int .i64 e.target, .int .i64 e.date, .str e.zb, .str e.name, .str e.value, .bool e.first], .box [.int .u8 e.kind, .int .i64 e.id, .int .i64 e.entry, .int .i64 e.target, .int .i64 e.date, .str e.zb, .str e.name, .str e.value, .bool e.first], .box [.int .u8 e.kind, .int .i64 e.id, .int .i64 e.entry, .int .i64 e.target, .int .i64 e.date, .str e.zb, .str e.name, .str e.value, .bool e.first], .box [.int .u8 e.kind, .str e.zb, .str e.name, .int .i64 e.date], .box [.int .u8 e.kind, .int .i64 e.id, .int .i64 e.entry, .int .i64 e.target, .int .i64 e.date, .str e.zb, .str e.name, .str e.value, .bool e.first], .box [.int .u8 e.kind, .str e.zb, .str e.name, .int .i64 e.date], .arr 1 9 (zd 9 [.int .u8 e.kind, .int .i64 e.id, .int .i64 e.entry, .int .i64 e.target, .int .i64 e.date, .str e.zb, .str e.name, .str e.value, .bool e.first]), .arr 1 9 (zd 9 [.int .u8 e.kind, .int .i64 e.id, .int .i64 e.entry, .int .i64 e.target, .int .i64 e.date, .str e.zb, .str e.name, .str e.value, .bool e.first])]))))) (.side (0 = 0 ∧ evs.length ≤ evs.length ∧ (evs.length + 1) * 96 ≤ 140737488355328) (.side (0 = 0 ∧ lat.length = lat.length) (.side (0 = 0 ∧ lat.length ≤ lat.length ∧ (lat.length + 1) * 96 ≤ 140737488355328) (.leaf (.ret [.int .i64 0] [.box [.osl 1 9 0 (evs.length + 1), .omap 2, .osl 3 9 0 (lat.length + 1)], .arr (evs.length + 1) 9 (appG evs.length (evG evs) (zg (zd 9 [.int .u8 e.kind, .int .i64 e.id, .int .i64 e.entry, .int .i64 e.target, .int .i64 e.date, .str e.zb, .str e.name, .str e.value, .bool e.first]) 0)), Blk.map true [Sum.inl .u8, Sum.inr false, Sum.inr false, Sum.inl .i64] (qK (zo lat) [Sum.inl e.kind, Sum.inr e.zb, Sum.inr e.name, Sum.inl e.date]) (z7 (z7 (zz lat) [Sum.inl e.kind, Sum.inr e.zb, Sum.inr e.name, Sum.inl e.date] .undef) [Sum.inl e.kind, Sum.inr e.zb, Sum.inr e.name, Sum.inl e.date] (.int .i64 e.id)), .arr (lat.length + 1) 9 (appG lat.length (evG lat) (zg (zd 9 [.int .u8 e.kind, .int .i64 e.id, .int .i64 e.entry, .int .i64 e.target, .int .i64 e.date, .str e.zb, .str e.name, .str e.value, .bool e.first]) 0)), .box [.int .u8 e.kind, .int .i64 e.id, .int .i64 e.entry, .int .i64 e.target, .int .i64 e.date, .str e.zb, .str e.name, .str e.value, .bool e.first], .box [.int .u8 e.kind, .int .i64 e.id, .int .i64 e.entry, .int .i64 e.target, .int .i64 e.date, .str e.zb, .str e.name, .str e.value, .bool e.first], .box [.int .u8 e.kind, .int .i64 e.id, .int .i64 e.entry, .int .i64 e.target, .int .i64 e.date, .str e.zb, .str e.name, .str e.value, .bool e.first], .box [.int .u8 e.kind, .str e.zb, .str e.name, .int .i64 e.date], .box [.int .u8 e.kind, .int .i64 e.id, .int .i64 e.entry, .int .i64 e.target, .int .i64 e.date, .str e.zb, .str e.name, .str e.value, .bool e.first], .box [.int .u8 e.kind, .str e.zb, .str e.name, .int .i64 e.date], .arr 1 9 (zd 9 [.int .u8 e.kind, .int .i64 e.id, .int .i64 e.entry, .int .i64 e.target, .int .i64 e.date, .str e.zb, .str e.name, .str e.value, .bool e.first]), .arr 1 9 (zd 9 [.int .u8 e.kind, .int .i64 e.id, .int .i64 e.entry, .int .i64 e.target, .int .i64 e.date, .str e.zb, .str e.name, .str e.value, .bool e.first])])))))) (.side (0 = 0 ∧ evs.length ≤ evs.length ∧ (evs.length + 1) * 96 ≤ 140737488355328) (.side (0 = 0 ∧ lat.length = lat.length) (.side (0 = 0 ∧ lat.length ≤ lat.length ∧ (lat.length + 1) * 96 ≤ 140737488355328) (.leaf (.ret [.int .i64 0] [.box [.osl 1 9 0 (evs.length + 1), .omap 2, .osl 3 9 0 (lat.length + 1)], .arr (evs.length + 1) 9 (appG evs.length (evG evs) (zg (zd 9 [.int .u8 e.kind, .int .i64 e.id, .int .i64 e.entry, .int .i64 e.target, .int .i64 e.date, .str e.zb, .str e.name, .str e.value, .bool e.first]) 0)), Blk.map true [Sum.inl .u8, Sum.inr false, Sum.inr false, Sum.inl .i64] (qK (zo lat) [Sum.inl e.kind, Sum.inr e.zb, Sum.inr e.name, Sum.inl e.date]) (z7 (z7 (zz lat) [Sum.inl e.kind, Sum.inr e.zb, Sum.inr e.name, Sum.inl e.date] .undef) [Sum.inl e.kind, Sum.inr e.zb, Sum.inr e.name, Sum.inl e.date] (.int .i64 e.id)), .arr (lat.length + 1) 9 (appG lat.length (evG lat) (zg (zd 9 [.int .u8 e.kind, .int .i64 e.id, .int .i64 e.entry, .int .i64 e.target, .int .i64 e.date, .str e.zb, .str e.name, .str e.value, .bool e.first]) 0)), .box [.int .u8 e.kind, .int .i64 e.id, .int .i64 e.entry, .int .i64 e.target, .int .i64 e.date, .str e.zb, .str e.name, .str e.value, .bool e.first], .box [.int .u8 e.kind, .int .i64 e.id, .int .i64 e.entry, .int .i64 e.target, .int .i64 e.date, .str e.zb, .str e.name, .str e.value, .bool e.first], .box [.int .u8 e.kind, .int .i64 e.id, .int .i64 e.entry, .int .i64 e.target, .int .i64 e.date, .str e.zb, .str e.name, .str e.value, .bool e.first], .box [.int .u8 e.kind, .str e.zb, .str e.name, .int .i64 e.date], .box [.int .u8 e.kind, .int .i64 e.id, .int .i64 e.entry, .int .i64 e.target, .int .i64 e.date, .str e.zb, .str e.name, .str e.value, .bool e.first], .box [.int .u8 e.kind, .str e.zb, .str e.name, .int .i64 e.date], .arr 1 9 (zd 9 [.int .u8 e.kind, .int .i64 e.id, .int .i64 e.entry, .int .i64 e.target, .int .i64 e.date, .str e.zb, .str e.name, .str e.value, .bool e.first]), .arr 1 9 (zd 9 [.int .u8 e.kind, .int .i64 e.id, .int .i64 e.entry, .int .i64 e.target, .int .i64 e.date, .str e.zb, .str e.name, .str e.value, .bool e.first])])))))))))))))))) (by kernel_rfl) ?_
 simp only [Tree.holds, ze]
 have fin : ∀ (r : Int) (h : Heap) (b1 b2 b3 b4 : Blk) (rest : Heap), h = b1 :: b2 :: b3 :: b4 :: rest → r = SS.errA ⟨evs, lat⟩ e → eqH (expH (b1 :: b2 :: b3 :: b4 :: rest) [0, 1, 2, 3]) (HSt (SS.add ⟨evs, lat⟩ e)) → RetR addC 4 Q [.int .i64 r] h := by
  rintro r h b1 b2 b3 b4 rest rfl rfl he
  exact RetR.keep [0, 1, 2, 3] rfl (by simp) (by show ∀ j, j < 4 → _; decide) rfl hq (by simp [resV, exp2, exp1, exp0, ren0, eqA2, eqL1]) he rfl
 have bad : ∀ (r : Int) (h : Heap) (rest : Heap), h = HSt ⟨evs, lat⟩ ++ rest → r ≠ 0 → SS.errA ⟨evs, lat⟩ e = r → RetR addC 4 Q [.int .i64 r] h := by
  intro r h rest hh hr0 hr
  refine fin _ _ _ _ _ _ _ hh hr.symm ?_
  have : SS.add ⟨evs, lat⟩ e = ⟨evs, lat⟩ := by unfold SS.add; rw [if_pos (by rw [hr]; exact hr0)]
  rw [this]
  simp [expH, expB, exp1, exp0, ren0, zw, HSt, za]
 clear hq
 simp only [inR, lo, hi]
 refine ⟨e, ⟨by simp [Ev.av], hs⟩, ⟨_, rfl⟩, ?_⟩
 rintro _ rfl
 refine ⟨fun _ => by omega, fun _ => ⟨fun h => ?_, fun h => ?_⟩⟩
 ·refine bad _ _ _ rfl (by decide) ?_
  unfold SS.errA
  rw [if_pos]
  cases hv : e.valid with
  | false => exact .inl rfl
  | true =>
   rw [hv] at h
   right
   simpa using h
 have h2 : ¬ (e.valid = false ∨ e.id ≠ evs.length + 1) := by
  cases hv : e.valid with
  | false => rw [hv] at h; simp at h
  | true =>
   rw [hv] at h
   simpa using h
 clear h
 have hv : e.valid = true := by
  cases hv : e.valid
  ·exact absurd (.inl hv) h2
  ·rfl
 have hid : e.id = evs.length + 1 := Decidable.byContradiction fun g => h2 (.inr g)
 refine ⟨fun g => by have := of_decide_eq_true g; omega, fun _ => ⟨fun g => by have := of_decide_eq_true g; omega, fun _ => ⟨fun h => ?_, fun h => ?_⟩⟩⟩
 ·refine bad _ _ _ rfl (by decide) ?_
  unfold SS.errA
  rw [if_neg h2, if_pos]
  rw [wT, Bool.and_eq_true, decide_eq_true_eq, decide_eq_true_eq] at h
  rw [show 0 + ((evs.length : Int) - 1).toNat = evs.length - 1 by omega] at h
  exact ⟨by simp only; omega, h.2⟩
 have h21 : ¬ (0 < evs.length ∧ e.entry < (evs.getD (evs.length - 1) Ev.nil).entry) := by
  rw [wT, Bool.and_eq_false_iff, decide_eq_false_iff_not, decide_eq_false_iff_not] at h
  rw [show 0 + ((evs.length : Int) - 1).toNat = evs.length - 1 by omega] at h
  rintro ⟨g1, g2⟩
  rcases h with h | h
  ·omega
  ·exact h g2
 clear h
 refine ⟨fun h => ?_, fun h => ?_⟩
 ·refine bad _ _ _ rfl (by decide) ?_
  unfold SS.errA
  rw [if_neg h2, if_neg h21, if_pos]
  have := of_decide_eq_true h
  simp only; omega
 have h22 : ¬ 1000 ≤ evs.length := by have := of_decide_eq_false h; omega
 clear h
 have hlen := ho.len
 simp only at hlen
 refine ⟨fun ht => ?_, fun ht => ?_⟩
 ·have ht : 0 < e.target := of_decide_eq_true ht
  have hA : SS.errA ⟨evs, lat⟩ e = SS.errC ⟨evs, lat⟩ e := by unfold SS.errA; rw [if_neg h2, if_neg h21, if_neg h22, if_pos ht]
  obtain ⟨c1, c2, c3⟩ := yq ho ht
  refine ⟨(⟨evs, lat⟩, e), ⟨by simp [Ev.av], by simp [za], trivial, ho, by simp only; omega, ht⟩, ⟨_, rfl⟩, ?_⟩
  rintro _ rfl
  refine ⟨fun h => ?_, fun h => ?_⟩
  ·have h : SS.errC ⟨evs, lat⟩ e ≠ 0 := by simpa using h
   have hc : SS.cor ⟨evs, lat⟩ e = ⟨evs, lat⟩ := by unfold SS.cor; rw [if_neg h]
   refine bad _ _ _ (by simp only [hc]; rfl) h hA
  ·have h : SS.errC ⟨evs, lat⟩ e = 0 := by simpa using h
   dsimp only
   have had : SS.add ⟨evs, lat⟩ e = ⟨(SS.cor ⟨evs, lat⟩ e).evs ++ [e], (SS.cor ⟨evs, lat⟩ e).lat ++ [Ev.nil]⟩ := by
    unfold SS.add; rw [if_neg (by rw [hA, h]; decide), if_pos ht, c3]
   rw [had] at fin
   simp only at c2 c3
   have e1 : (SS.cor ⟨evs, lat⟩ e).evs.length = evs.length := by rw [c3]
   refine jo ?_ ?_
   ·refine jo ?_ ?_ <;> refine ⟨⟨trivial, Nat.le_refl _, by omega⟩, fun _ => ⟨⟨trivial, trivial⟩, fun _ => ⟨⟨trivial, Nat.le_refl _, by omega⟩, fun _ => fin _ _ _ _ _ _ _ rfl (by rw [hA, h]) ?_⟩⟩⟩ <;>
     exact ⟨by simp [expB, exp1, exp0, ren0, zw], ⟨by simp, rfl, jN (x := e) (za _ _ _)⟩, ⟨⟨rfl, .inl rfl⟩, rfl, fun k => (xx k).1, fun k hk => (xx k).2 (by rw [← (xx k).1]; exact hk)⟩, ⟨by simp, rfl, jN (x := Ev.nil) (za _ _ _)⟩, trivial⟩
   ·refine ⟨⟨trivial, Nat.le_refl _, by omega⟩, fun _ => ⟨⟨trivial, trivial⟩, fun _ => ⟨⟨trivial, Nat.le_refl _, by omega⟩, fun _ => fin _ _ _ _ _ _ _ rfl (by rw [hA, h]) ?_⟩⟩⟩
    exact ⟨by simp [expB, exp1, exp0, ren0, zw], ⟨by simp, rfl, jN (x := e) (za _ _ _)⟩, ⟨⟨rfl, .inl rfl⟩, rfl, fun k => (xx k).1, fun k hk => (xx k).2 (by rw [← (xx k).1]; exact hk)⟩, ⟨by simp, rfl, jN (x := Ev.nil) (za _ _ _)⟩, trivial⟩
 ·have ht : ¬ 0 < e.target := of_decide_eq_false ht
  refine ⟨fun hk => ⟨fun _ => ?_, fun g => by have := of_decide_eq_false g; omega⟩, fun hk => ⟨fun g => (by cases g), fun _ => ⟨⟨0, trivial⟩, fun st _ => ⟨trivial, fun _ => ?_⟩⟩⟩⟩
  ·refine bad _ _ _ rfl (by decide) ?_
   unfold SS.errA
   rw [if_neg h2, if_neg h21, if_neg h22, if_neg ht, if_pos]
   exact hk
  ·have hA : SS.errA ⟨evs, lat⟩ e = 0 := by
    unfold SS.errA
    rw [if_neg h2, if_neg h21, if_neg h22, if_neg ht, if_neg]
    simp only [Ev.key]
    rw [hk]; decide
   have had : SS.add ⟨evs, lat⟩ e = ⟨evs ++ [e], lat ++ [e]⟩ := by unfold SS.add; rw [if_neg (by rw [hA]; decide), if_neg ht]
   rw [had] at fin
   have hk0 : e.kind ≠ 0 := by
    intro g
    unfold Ev.valid at hv
    rw [if_neg (by omega), if_neg (by omega)] at hv
    simp only [Bool.and_eq_true, inB, decide_eq_true_eq] at hv
    omega
   have hmap : eqB (.map true [.inl .u8, .inr false, .inr false, .inl .i64] (qK (zo lat) e.key) (z7 (z7 (zz lat) e.key .undef) e.key (.int .i64 e.id))) (.map true [.inl .u8, .inr false, .inr false, .inl .i64] (zo (lat ++ [e])) (zz (lat ++ [e]))) := by
    refine ⟨⟨rfl, .inl rfl⟩, rfl, fun k => X4 (s := ⟨evs, lat⟩) hk0 k, fun k hk' => ?_⟩
    rw [X4 (s := ⟨evs, lat⟩) hk0 k] at hk'
    have := Vt (s := ⟨evs, lat⟩) hk0 (by simp only [hlen]; omega) hk k hk'
    rw [← this]
    unfold z7
    split <;> rfl
   refine jo ?_ ?_
   ·refine jo ?_ ?_ <;> refine ⟨⟨trivial, Nat.le_refl _, by omega⟩, fun _ => ⟨⟨trivial, trivial⟩, fun _ => ⟨⟨trivial, Nat.le_refl _, by omega⟩, fun _ => fin _ _ _ _ _ _ _ rfl hA.symm ?_⟩⟩⟩ <;>
     exact ⟨by simp [expB, exp1, exp0, ren0, zw], ⟨by simp, rfl, jN (x := e) (za _ _ _)⟩, hmap, ⟨by simp, rfl, jN (x := e) (za _ _ _)⟩, trivial⟩
   ·refine ⟨⟨trivial, Nat.le_refl _, by omega⟩, fun _ => ⟨⟨trivial, trivial⟩, fun _ => ⟨⟨trivial, Nat.le_refl _, by omega⟩, fun _ => fin _ _ _ _ _ _ _ rfl hA.symm ?_⟩⟩⟩
    exact ⟨by simp [expB, exp1, exp0, ren0, zw], ⟨by simp, rfl, jN (x := e) (za _ _ _)⟩, hmap, ⟨by simp, rfl, jN (x := e) (za _ _ _)⟩, trivial⟩
end Go.Proofs.Try
end

/- A nil slice in a box, taken for one of one's own of no elements. -/
section
namespace Go.Sx
variable [Stat]
section
variable {O : Nat → Prop} {pin : Nat} {w0 : World} {σ0 : List SE} {w : World} {σ : List SE} {P : Program} {st : St} {a : Act} {fn : Func}
theorem uR {own : Nat → Prop} {i sz : Nat} (he : σ[i]? = some ⟨none, 0⟩) : ∀ (cs : List AV) (j : Nat) (vs : List Value), cs[j]? = some .nils → RepL own w cs σ vs → RepL own w (cs.set j (.osl i sz 0 0)) σ vs
 | [], j, _, h, _ => by simp at h
 | b :: l, 0, vs, h, hr => by
  simp only [List.getElem?_cons_zero, Option.some.injEq] at h
  subst h
  simp only [RepL] at hr
  obtain ⟨v, r, rfl, h1, h2⟩ := hr
  simp only [Rep] at h1
  simp only [List.set_cons_zero, RepL]
  refine ⟨v, r, rfl, ?_, h2⟩
  rw [h1]
  simp only [Rep]
  exact ⟨⟨none, 0⟩, he, by simp, none, 0, rfl, Nat.le_refl _, .inl rfl⟩
 | b :: l, j + 1, vs, h, hr => by
  simp only [List.getElem?_cons_succ] at h
  simp only [RepL] at hr
  obtain ⟨v, r, rfl, h1, h2⟩ := hr
  simp only [List.set_cons_succ, RepL]
  exact ⟨v, r, rfl, h1, uR he l j r h h2⟩
def WI (st : St) (i j sz : Nat) (g : Nat → Nat → AV) (cs : List AV) : St := ⟨st.tmps, st.heap.set i (.box (cs.set j (.osl st.heap.length sz 0 0))) ++ [.arr 0 sz g]⟩
theorem Vs (hm : Mod O pin w0 σ0 w σ st a) {i j sz : Nat} {g : Nat → Nat → AV} {cs : List AV} (hb : st.heap[i]? = some (.box cs)) (hj : cs[j]? = some .nils) (hno : st.tmps.all z1 = true) : Mod O pin w0 σ0 w (σ ++ [⟨none, 0⟩]) (WI st i j sz g cs) a := by
 obtain ⟨k1, k2, k3⟩ := Qa hm.good hm.hp sz g
 have hx := ext_nil (O := O) w σ 0
 have hlt := (List.getElem?_eq_some_iff.1 hb).1
 have hp : HRep (Own O (σ ++ [⟨none, 0⟩])) w (σ ++ [⟨none, 0⟩]) ((st.heap ++ [Blk.arr 0 sz g]).set i (Blk.box (cs.set j (.osl st.heap.length sz 0 0)))) := by
  refine ZT k1 fun e he => ?_
  have h1 := k1.blk i e (.box cs) he (by rw [List.getElem?_append_left hlt]; exact hb)
  simp only [BRep] at h1 ⊢
  obtain ⟨ad, vs, el, q1, q2, q3, q4⟩ := h1
  exact ⟨ad, vs, el, q1, q2, q3, uR (by rw [← hm.hp.len]; simp) cs j vs hj q4⟩
 rw [List.set_append_left _ _ hlt] at hp
 refine ⟨k2, hp, by simp [WI, hm.size], fun u => ?_, hm.df.ext hx, hm.since.trans ⟨hx, fun _ _ _ => rfl, jG.of k3 (by simp)⟩, hm.lim⟩
 have hu := hm.tm u
 show TRep _ _ _ _ (st.tmps.getD u .undef) _
 have hn : z1 (st.tmps.getD u .undef) = true := by
  by_cases hlt : u < st.tmps.length
  ·simp only [List.getD, List.getElem?_eq_getElem hlt, Option.getD_some]
   exact List.all_eq_true.1 hno _ (List.getElem_mem hlt)
  ·simp only [List.getD]
   rw [List.getElem?_eq_none (by omega)]; rfl
 generalize st.tmps.getD u .undef = x at hu hn
 cases x with
 | opt _ _ _ => simp [z1] at hn
 | _ => simp only [TRep] at hu ⊢; exact zH hx k3 _ _ (qA _) hu
theorem zc.Y9 {M : Option Nat} {Hs : Nat → KV → Heap → Prop} {R : List AV → Heap → Prop} {k : List Item} {kv : KV} {h : Heap} (i j sz : Nat) (g : Nat → Nat → AV) {cs : List AV} (hb : h[i]? = some (.box cs)) (hj : cs[j]? = some .nils) (hno : (pk fn.ntmps kv).all z1 = true)
  (H : qa M P fn O pin w0 σ0 Hs R k (mk fn.ntmps kv (h.set i (.box (cs.set j (.osl h.length sz 0 0))) ++ [.arr 0 sz g]))) : qa M P fn O pin w0 σ0 Hs R k (mk fn.ntmps kv h) :=
 fun w σ a hm => H w _ a (Vs hm hb hj hno)
end
end Go.Sx
end

/- A contract with two outcomes. -/
section
namespace Go.Sx
variable [Stat]
variable {P : Program} {fn : Func}
def ctrD {X R : Type} (fresh : Bool) (inp : X → List AV) (pre : X → Prop) (yes : X → Bool) (post : X → R → Prop) (out : X → R → AV × Heap) (no : X → AV × Heap) : Ctr where
 fresh := fresh
 spec args hc := match hc with
  | [] => .ex (fun x => eqL args (inp x) ∧ pre x) fun x => .ite (yes x) (.all (post x) fun r => .leaf (out x r)) (.leaf (no x))
  | _ => .fail
theorem XQ {X R : Type} {fresh : Bool} {inp : X → List AV} {pre : X → Prop} {yes : X → Bool} {post : X → R → Prop} {out : X → R → AV × Heap} {no : X → AV × Heap} {g : Nat} {c : Code} (hf : P.funcs[g]? = some fn) (hb : fn.body = some c) (hn : (fn.name == "runtime.NumGoroutine") = false)
  (H : ∀ x, pre x → ∀ (O : Nat → Prop) (w0 : World) (Q : AV × Heap → Prop), (yes x = true → ∀ r, post x r → Q (out x r)) → (yes x = false → Q (no x)) →
   zc P fn O 0 w0 [] (fun _ _ _ => False) (RetR (ctrD fresh inp pre yes post out no) 0 Q) [.code c] (entry fn (inp x))) : zf P g (ctrD fresh inp pre yes post out no) := by
 intro args hc Q hq _
 simp only [ctrD] at hq
 split at hq
 ·obtain ⟨x, ⟨h1, h4⟩, h5, h6⟩ := hq
  refine q8.le h1 (fn_k hf hb hn (fun _ => rfl) fun O w0 σ0 hl => ?_)
  have : σ0 = [] := List.length_eq_zero_iff.1 (by simpa using hl)
  subst this
  exact H x h4 O w0 Q (fun hy r hr => (h5 hy).2 r hr) h6
 ·exact hq.elim
end Go.Sx
end

/- The store: logs replayed. -/
section
set_option maxRecDepth 100000
open Go Go.Sx Go.Proofs Go.Nov
namespace Go.Proofs.Try
attribute [local simp] eqKV eqA eqA0 eqH eqB eqL eqL0
noncomputable def K29 : List Go.Sx.Item := [.code (Try.f29.body.getD .skip)]
def repC : Ctr := ctrD false (fun l : List Ev => [evS l]) (fun l => l.length < 2 ^ 40 ∧ ∀ e ∈ l, zC e) (fun l => (SS.play ⟨[], []⟩ l).isSome) (fun l (s : SS) => SS.play ⟨[], []⟩ l = some s) (fun _ s => (.tup [.ptr 0 0, .bool true], HSt s)) (fun _ => (.tup [.nilp, .bool false], []))
def SRe (l : List Ev) (i : Nat) : KV := [(4, .ptr 1 0), (10, evS l), (11, .int .i64 l.length), (12, .int .i64 i)]
def HRe (s : SS) : Heap := [.map true [.inl .u8, .inr false, .inr false, .inl .i64] (zo s.lat) (zz s.lat), .box [.osl 2 9 0 s.evs.length, .omap 0, .osl 3 9 0 s.lat.length], .arr s.evs.length 9 (evG s.evs), .arr s.lat.length 9 (evG s.lat)]
noncomputable def GRe : Nat → Option Ctr := fun f => if f = 30 then some (addC) else none
theorem Kv : ∀ g c, GRe g = some c → zf Try.prog g c := okIf WQ (z3)
theorem KX : zf Try.prog 29 repC := by
 refine XQ (fn := Try.f29) (c := Try.f29.body.getD .skip) rfl rfl rfl fun l hp O w0 Q hq hq2 => ?_
 obtain ⟨h1, h2⟩ := hp
 refine zc.run hmix Kv [4, 10, 11, 12] 400 (T := .leaf (.loop (Prod.fst (lps K29 0)) (Prod.snd (lps K29 0)) [(4, .ptr 1 0), (10, .sl l.length 9 (evG l)), (11, .int .i64 l.length), (12, .int .i64 0)] [Blk.map true [Sum.inl .u8, Sum.inr false, Sum.inr false, Sum.inl .i64] Qo Kb, .box [.nils, .omap 0, .nils]])) (by kernel_rfl) ?_
 refine zc.Y9 1 0 9 (evG []) rfl rfl (by kernel_rfl) ?_
 refine zc.Y9 1 2 9 (evG []) rfl rfl (by kernel_rfl) ?_
 refine zc.loop (ι := {p : Nat × SS // p.1 ≤ l.length ∧ p.2.ok ∧ p.2.evs.length = p.1 ∧ p.2.evs.length ≤ 1000 ∧ p.2.play (l.drop p.1) = SS.play ⟨[], []⟩ l}) (fun p => SRe l p.1.1) (fun p => HRe p.1.2) (fun p => l.length - p.1.1) ⟨(0, ⟨[], []⟩), Nat.zero_le _, Jv, rfl, by simp, rfl⟩ 0 ?_ ?_ (by kernel_rfl)
 ·exact ⟨by simp [SRe, evS, za], by simp [HRe, za, Qo, zo], by kernel_rfl, Nat.zero_le _⟩
 ·rintro ⟨⟨i, s⟩, hil, hso, hsl, hsm, hpl⟩
  simp only at hil hso hsl hsm hpl
  refine zc.run hmix Kv [4, 10, 11, 12] 400 (T := .ite (decide ((↑i : Int) < l.length)) (.side ((0 : Int) ≤ i ∧ (↑i : Int) < l.length) (.ex (fun (x : SS × Ev) => eqL [AV.ptr 0 0, AV.agg [AV.int .u8 (Ev.kind (List.getD l (Int.toNat (↑i : Int)) Ev.nil)), AV.int .i64 (Ev.id (List.getD l (Int.toNat (↑i : Int)) Ev.nil)), AV.int .i64 (Ev.entry (List.getD l (Int.toNat (↑i : Int)) Ev.nil)), AV.int .i64 (Ev.target (List.getD l (Int.toNat (↑i : Int)) Ev.nil)), AV.int .i64 (Ev.date (List.getD l (Int.toNat (↑i : Int)) Ev.nil)), AV.str (Ev.zb (List.getD l (Int.toNat (↑i : Int)) Ev.nil)), AV.str (Ev.name (List.getD l (Int.toNat (↑i : Int)) Ev.nil)), AV.str (Ev.value (List.getD l (Int.toNat (↑i : Int)) Ev.nil)), AV.bool (Ev.first (List.getD l (Int.toNat (↑i : Int)) Ev.nil))]] [AV.ptr 0 0, AV.agg [AV.int .u8 x.2.kind, AV.int .i64 x.2.id, AV.int .i64 x.2.entry, AV.int .i64 x.2.target, AV.int .i64 x.2.date, AV.str x.2.zb, AV.str x.2.name, AV.str x.2.value, AV.bool x.2.first]] ∧ eqH [.box [AV.osl 1 9 0 (List.length (SS.evs s)), AV.omap 2, AV.osl 3 9 0 (List.length (SS.lat s))], .arr (List.length (SS.evs s)) 9 (evG (SS.evs s)), Blk.map true [Sum.inl .u8, Sum.inr false, Sum.inr false, Sum.inl .i64] (zo (SS.lat s)) (zz (SS.lat s)), .arr (List.length (SS.lat s)) 9 (evG (SS.lat s))] [.box [AV.osl 1 9 0 (List.length (SS.evs x.1)), AV.omap 2, AV.osl 3 9 0 (List.length (SS.lat x.1))], .arr (List.length (SS.evs x.1)) 9 (evG (SS.evs x.1)), Blk.map true [Sum.inl .u8, Sum.inr false, Sum.inr false, Sum.inl .i64] (zo (SS.lat x.1)) (zz (SS.lat x.1)), .arr (List.length (SS.lat x.1)) 9 (evG (SS.lat x.1))] ∧ 4 = 4 ∧ SS.ok x.1 ∧ List.length (SS.evs x.1) ≤ 1000 ∧ zC x.2) fun n => .all (fun (r : Int) => r = SS.errA n.1 n.2) fun n_1 => .ite (!decide (n_1 = 0)) (.leaf (.ret [.nilp, .bool false] [Blk.map true [Sum.inl .u8, Sum.inr false, Sum.inr false, Sum.inl .i64] (zo (SS.lat (SS.add n.1 n.2))) (zz (SS.lat (SS.add n.1 n.2))), .box [.osl 2 9 0 (List.length (SS.evs (SS.add n.1 n.2))), .omap 0, .osl 3 9 0 (List.length (SS.lat (SS.add n.1 n.2)))], .arr (List.length (SS.evs (SS.add n.1 n.2))) 9 (evG (SS.evs (SS.add n.1 n.2))), .arr (List.length (SS.lat (SS.add n.1 n.2))) 9 (evG (SS.lat (SS.add n.1 n.2))), .box [.int .u8 (Ev.kind (List.getD l (Int.toNat (↑i : Int)) Ev.nil)), .int .i64 (Ev.id (List.getD l (Int.toNat (↑i : Int)) Ev.nil)), .int .i64 (Ev.entry (List.getD l (Int.toNat (↑i : Int)) Ev.nil)), .int .i64 (Ev.target (List.getD l (Int.toNat (↑i : Int)) Ev.nil)), .int .i64 (Ev.date (List.getD l (Int.toNat (↑i : Int)) Ev.nil)), .str (Ev.zb (List.getD l (Int.toNat (↑i : Int)) Ev.nil)), .str (Ev.name (List.getD l (Int.toNat (↑i : Int)) Ev.nil)), .str (Ev.value (List.getD l (Int.toNat (↑i : Int)) Ev.nil)), .bool (Ev.first (List.getD l (Int.toNat (↑i : Int)) Ev.nil))]])) (.side (inR .i64 ((↑i : Int) + (1 : Int))) (.leaf (.back 0 [(4, .ptr 1 0), (10, .sl l.length 9 (evG l)), (11, .int .i64 l.length), (12, .int .i64 ((↑i : Int) + (1 : Int)))] [Blk.map true [Sum.inl .u8, Sum.inr false, Sum.inr false, Sum.inl .i64] (zo (SS.lat (SS.add n.1 n.2))) (zz (SS.lat (SS.add n.1 n.2))), .box [.osl 2 9 0 (List.length (SS.evs (SS.add n.1 n.2))), .omap 0, .osl 3 9 0 (List.length (SS.lat (SS.add n.1 n.2)))], .arr (List.length (SS.evs (SS.add n.1 n.2))) 9 (evG (SS.evs (SS.add n.1 n.2))), .arr (List.length (SS.lat (SS.add n.1 n.2))) 9 (evG (SS.lat (SS.add n.1 n.2))), .box [.int .u8 (Ev.kind (List.getD l (Int.toNat (↑i : Int)) Ev.nil)), .int .i64 (Ev.id (List.getD l (Int.toNat (↑i : Int)) Ev.nil)), .int .i64 (Ev.entry (List.getD l (Int.toNat (↑i : Int)) Ev.nil)), .int .i64 (Ev.target (List.getD l (Int.toNat (↑i : Int)) Ev.nil)), .int .i64 (Ev.date (List.getD l (Int.toNat (↑i : Int)) Ev.nil)), .str (Ev.zb (List.getD l (Int.toNat (↑i : Int)) Ev.nil)), .str (Ev.name (List.getD l (Int.toNat (↑i : Int)) Ev.nil)), .str (Ev.value (List.getD l (Int.toNat (↑i : Int)) Ev.nil)), .bool (Ev.first (List.getD l (Int.toNat (↑i : Int)) Ev.nil))]]))))) (.leaf (.ret [.ptr 1 0, .bool true] [Blk.map true [Sum.inl .u8, Sum.inr false, Sum.inr false, Sum.inl .i64] (zo (SS.lat s)) (zz (SS.lat s)), .box [.osl 2 9 0 (List.length (SS.evs s)), .omap 0, .osl 3 9 0 (List.length (SS.lat s))], .arr (List.length (SS.evs s)) 9 (evG (SS.evs s)), .arr (List.length (SS.lat s)) 9 (evG (SS.lat s))]))) (by kernel_rfl) ?_
  simp only [Tree.holds, ze]
  simp only [Int.toNat_natCast, inR, lo, hi]
  refine ⟨fun h => ⟨by have := of_decide_eq_true h; omega, fun _ => ?_⟩, fun h => ?_⟩
  ·have hlt : i < l.length := by have := of_decide_eq_true h; omega
   rw [Vg hlt] at hpl
   have hsm1 := Z0 h2 i
   generalize l.getD i Ev.nil = e at hpl hsm1 ⊢
   refine ⟨(s, e), ⟨by simp [Ev.av], by simp [za], trivial, hso, hsm, hsm1⟩, ⟨_, rfl⟩, ?_⟩
   rintro _ rfl
   refine ⟨fun g => ?_, fun g => ⟨by omega, fun _ => ?_⟩⟩
   ·have g : s.errA e ≠ 0 := by simpa using g
    rw [if_neg g] at hpl
    rw [← hpl] at hq2
    exact RetR.scal (hq2 rfl) rfl (by simp [resV])
   ·have g : s.errA e = 0 := by simpa using g
    rw [if_pos g] at hpl
    obtain ⟨a1, a2⟩ := yk g
    rw [if_pos trivial]
    refine ⟨⟨(i + 1, s.add e), hlt, Jk hso e, by rw [a1]; simp; omega, by rw [a1]; simp; omega, hpl⟩, by show l.length - (i + 1) < l.length - i; omega, ?_⟩
    exact ⟨by simp [SRe, evS, za], by simp [HRe, za], by kernel_rfl, Nat.zero_le _⟩
  ·have hge : i = l.length := by have := of_decide_eq_false h; omega
   subst hge
   rw [List.drop_length] at hpl
   rw [← hpl] at hq
   refine RetR.outs [1, 2, 0, 3] rfl rfl (hq rfl _ rfl) (fun h => by cases h) (by simp [resV, exp2, exp1, exp0, ren0, zw, eqA2, eqL1]) ?_ rfl
   simp [expH, expB, exp1, exp0, ren0, zw, HSt, za]
end Go.Proofs.Try
end

/- The reference's log: what it accepts. -/
section
namespace Go.Nov
open Go.Sx
def Ev.fact (e : Ev) : Bool := decide (e.kind = 1) || decide (e.kind = 2)
def qv (l : List Ev) (id : Int) : Bool := l.any fun x => decide (x.kind = 5) && decide (x.target = id)
def kQ (a b : Ev) : Bool := decide (a.kind = b.kind) && decide (a.zb = b.zb) && decide (a.name = b.name) && decide (a.date = b.date)
def jW (l : List Ev) (e : Ev) (n : Nat) : Bool := (List.range n).any fun i => kQ (l.getD i Ev.nil) e && !qv l (i + 1)
def accR (l : List Ev) (e : Ev) : Int :=
 if e.valid = false ∨ e.id ≠ l.length + 1 then 2
 else if 0 < l.length ∧ e.entry < (l.getD (l.length - 1) Ev.nil).entry then 21
 else if 1000 ≤ l.length then 22
 else if e.fact = false then
  if (l.length : Int) < e.target ∨ (l.getD (e.target.toNat - 1) Ev.nil).fact = false ∨ qv l e.target = true then 6
  else if e.kind = 3 ∧ (l.getD (e.target.toNat - 1) Ev.nil).kind = 2 ∨ e.kind = 4 ∧ (l.getD (e.target.toNat - 1) Ev.nil).kind = 1 then 32 else 0
 else if jW l e l.length then 24 else 0
def qO (l : List Ev) : Bool := (List.range l.length).all fun i => decide (accR (l.take i) (l.getD i Ev.nil) = 0)
def appR (l : List Ev) (e : Ev) : List Ev × Int := if qO l = false then ([], 8) else if accR l e ≠ 0 then ([], accR l e) else (l ++ [e], 0)
def appS (l : List Ev) (e : Ev) : List Ev × Int := match SS.play ⟨[], []⟩ l with
 | none => ([], 8)
 | some s => if s.errA e ≠ 0 then ([], s.errA e) else (s.evs ++ [e], 0)
theorem Vh {α : Type} {l : List α} {z : α} {p : α → Bool} : (List.range l.length).any (fun i => p (l.getD i z)) = l.any p := by
 rw [Bool.eq_iff_iff, List.any_eq_true, List.any_eq_true]
 constructor
 ·rintro ⟨i, hi, hp⟩
  have hi := List.mem_range.1 hi
  rw [qE hi] at hp
  exact ⟨_, List.getElem_mem hi, hp⟩
 ·rintro ⟨x, hx, hp⟩
  obtain ⟨i, hi, rfl⟩ := List.mem_iff_getElem.1 hx
  exact ⟨i, List.mem_range.2 hi, by rw [qE hi]; exact hp⟩
end Go.Nov
namespace Go.Nov
theorem u0 {e : Ev} (hv : e.valid = true) (hf : e.fact = false) : 1 ≤ e.target := by
 have hf : ¬ e.kind = 1 ∧ ¬ e.kind = 2 := by simpa [Ev.fact] using hf
 unfold Ev.valid at hv
 rw [if_neg hf.1, if_neg hf.2] at hv
 simp only [Bool.and_eq_true, inB, decide_eq_true_eq] at hv
 omega
end Go.Nov
namespace Go.Nov
theorem Ul (a b : Ev) : (decide (a.kind = b.kind) && (decide (a.id = b.id) && (decide (a.entry = b.entry) && (decide (a.target = b.target) && (decide (a.date = b.date) && (decide (a.zb = b.zb) && (decide (a.name = b.name) && (decide (a.value = b.value) && (a.first == b.first && true))))))))) = decide (a = b) := by
 rw [Bool.eq_iff_iff]
 obtain ⟨a1, a2, a3, a4, a5, a6, a7, a8, a9⟩ := a
 obtain ⟨b1, b2, b3, b4, b5, b6, b7, b8, b9⟩ := b
 simp only [Bool.and_eq_true, decide_eq_true_eq, beq_iff_eq, Ev.mk.injEq, and_true]
theorem YH {a b : List Ev} (hl : a.length = b.length) (h : ∀ j, j < a.length → a.getD j Ev.nil = b.getD j Ev.nil) : a = b := by
 apply List.ext_getElem hl
 intro i h1 h2
 have := h i h1
 rwa [qE h1, qE h2] at this
end Go.Nov
end

/- The store: Check, Append. -/
section
set_option maxRecDepth 100000
open Go Go.Sx Go.Proofs Go.Nov
namespace Go.Proofs.Try
attribute [local simp] eqKV eqA eqA0 eqH eqB eqL eqL0
def evP (l : List Ev) : Prop := l.length < 2 ^ 40 ∧ ∀ e ∈ l, zC e
def Qb : Ctr := ctrP true (fun l : List Ev => [.agg [evS l]]) evP (fun l r => r = if (SS.play ⟨[], []⟩ l).isSome then 0 else 8) (fun _ (r : Int) => (.int .i64 r, []))
noncomputable def GCl : Nat → Option Ctr := fun f => if f = 29 then some (repC) else none
theorem Ue : ∀ g c, GCl g = some c → zf Try.prog g c := okIf KX (z3)
theorem VK : zf Try.prog 15 Qb := by
 refine zn (fn := Try.f15) (c := Try.f15.body.getD .skip) rfl rfl rfl fun l hp O w0 Q hq => ?_
 replace hq := hq _ rfl
 refine zc.run hmix Ue [] 400 (T := .ex (fun (x : List Ev) => eqL [AV.sl l.length 9 (evG l)] [AV.sl x.length 9 (evG x)] ∧ x.length < 1099511627776 ∧ ∀ (e : Ev), e ∈ x → zC e) fun n => .ite (Option.isSome (SS.play { evs := [], lat := [] } n)) (.all (fun (s : SS) => SS.play { evs := [], lat := [] } n = some s) fun n => .ite false (.leaf (.ret [.int .i64 8] [.box [.sl l.length 9 (evG l)], .box [.osl 2 9 0 (List.length (SS.evs n)), .omap 3, .osl 4 9 0 (List.length (SS.lat n))], .arr (List.length (SS.evs n)) 9 (evG (SS.evs n)), Blk.map true [Sum.inl .u8, Sum.inr false, Sum.inr false, Sum.inl .i64] (zo (SS.lat n)) (zz (SS.lat n)), .arr (List.length (SS.lat n)) 9 (evG (SS.lat n))])) (.leaf (.ret [.int .i64 0] [.box [.sl l.length 9 (evG l)], .box [.osl 2 9 0 (List.length (SS.evs n)), .omap 3, .osl 4 9 0 (List.length (SS.lat n))], .arr (List.length (SS.evs n)) 9 (evG (SS.evs n)), Blk.map true [Sum.inl .u8, Sum.inr false, Sum.inr false, Sum.inl .i64] (zo (SS.lat n)) (zz (SS.lat n)), .arr (List.length (SS.lat n)) 9 (evG (SS.lat n))]))) (.ite true (.leaf (.ret [.int .i64 8] [.box [.sl l.length 9 (evG l)]])) (.leaf (.ret [.int .i64 0] [.box [.sl l.length 9 (evG l)]])))) (by kernel_rfl) ?_
 simp only [Tree.holds, ze]
 have fin : ∀ (z : Int) (h : Heap), z = (if (SS.play ⟨[], []⟩ l).isSome then 0 else 8) → RetR Qb 0 Q [.int .i64 z] h := by
  rintro z h rfl
  exact RetR.scal hq rfl rfl
 refine ⟨l, ⟨by simp [za], hp⟩, fun h => ?_, fun h => ?_⟩
 ·obtain ⟨t, ht⟩ := Option.isSome_iff_exists.1 h
  refine ⟨⟨t, ht⟩, fun s hs => ⟨fun g => (by cases g), fun _ => fin _ _ (by rw [if_pos h])⟩⟩
 ·exact ⟨fun _ => fin _ _ (by rw [if_neg (by rw [h]; decide)]), fun g => (by cases g)⟩
theorem K5 {ctr : Ctr} {Q : AV × Heap → Prop} (e : Int) (h : Heap) (hq : Q (.tup [.agg [.osl 0 9 0 0], .int .i64 e], [.arr 0 9 (evG [])])) : RetR ctr 0 (upQ Q) [.agg [.nils], .int .i64 e] h := by
 refine RetR.out0 (r := .tup [.agg [.nils], .int .i64 e]) (.inr ⟨_, [(9, evG [])], ?_, hq⟩) (fun _ => by simp [resV, new2, new1, new0, zP]) (by simp [resV, exp2, exp1, exp0, ren0, eqA2, eqL1])
 simp [upA2, upL1, upA1, upL0, upA0]
theorem Yo {n : Nat} {g : Nat → Nat → AV} {l : List Ev} (h : eqG n 9 g (evG l)) : newB (.arr n 9 g) := fun j o hj ho => by rw [h j o hj ho]; exact Wn l j o ho
def Xz : Ctr := ctrP true (fun p : List Ev × Ev => [.agg [evS p.1], p.2.av]) (fun p => evP p.1 ∧ zC p.2) (fun p r => r = appS p.1 p.2) (fun _ (r : List Ev × Int) => (.tup [.agg [.osl 0 9 0 r.1.length], .int .i64 r.2], [.arr r.1.length 9 (evG r.1)]))
noncomputable def GAp : Nat → Option Ctr := fun f => if f = 29 then some (repC) else if f = 30 then some (addC) else none
theorem Ug : ∀ g c, GAp g = some c → zf Try.prog g c := okIf KX (okIf WQ (z3))
theorem Yb : zf Try.prog 12 Xz := by
 refine Kk (fn := Try.f12) (c := Try.f12.body.getD .skip) rfl rfl rfl fun p hp O w0 Q hq => ?_
 obtain ⟨l, e⟩ := p
 replace hq := hq _ rfl
 refine zc.run hmix Ug [] 400 (T := .ex (fun (x : List Ev) => eqL [AV.sl l.length 9 (evG l)] [AV.sl x.length 9 (evG x)] ∧ x.length < 1099511627776 ∧ ∀ (e : Ev), e ∈ x → zC e) fun n => .ite (Option.isSome (SS.play { evs := [], lat := [] } n)) (.all (fun (s : SS) => SS.play { evs := [], lat := [] } n = some s) fun n => .ite false (.leaf (.ret [.agg [.nils], .int .i64 8] [.box [.sl l.length 9 (evG l)], .box [.int .u8 e.kind, .int .i64 e.id, .int .i64 e.entry, .int .i64 e.target, .int .i64 e.date, .str e.zb, .str e.name, .str e.value, .bool e.first], .box [.nils], .box [.osl 4 9 0 (List.length (SS.evs n)), .omap 5, .osl 6 9 0 (List.length (SS.lat n))], .arr (List.length (SS.evs n)) 9 (evG (SS.evs n)), Blk.map true [Sum.inl .u8, Sum.inr false, Sum.inr false, Sum.inl .i64] (zo (SS.lat n)) (zz (SS.lat n)), .arr (List.length (SS.lat n)) 9 (evG (SS.lat n))])) (.ex (fun (x : SS × Ev) => eqL [AV.ptr 0 0, AV.agg [AV.int .u8 e.kind, AV.int .i64 e.id, AV.int .i64 e.entry, AV.int .i64 e.target, AV.int .i64 e.date, AV.str e.zb, AV.str e.name, AV.str e.value, AV.bool e.first]] [AV.ptr 0 0, AV.agg [AV.int .u8 x.2.kind, AV.int .i64 x.2.id, AV.int .i64 x.2.entry, AV.int .i64 x.2.target, AV.int .i64 x.2.date, AV.str x.2.zb, AV.str x.2.name, AV.str x.2.value, AV.bool x.2.first]] ∧ eqH [.box [AV.osl 1 9 0 (List.length (SS.evs n)), AV.omap 2, AV.osl 3 9 0 (List.length (SS.lat n))], .arr (List.length (SS.evs n)) 9 (evG (SS.evs n)), Blk.map true [Sum.inl .u8, Sum.inr false, Sum.inr false, Sum.inl .i64] (zo (SS.lat n)) (zz (SS.lat n)), .arr (List.length (SS.lat n)) 9 (evG (SS.lat n))] [.box [AV.osl 1 9 0 (List.length (SS.evs x.1)), AV.omap 2, AV.osl 3 9 0 (List.length (SS.lat x.1))], .arr (List.length (SS.evs x.1)) 9 (evG (SS.evs x.1)), Blk.map true [Sum.inl .u8, Sum.inr false, Sum.inr false, Sum.inl .i64] (zo (SS.lat x.1)) (zz (SS.lat x.1)), .arr (List.length (SS.lat x.1)) 9 (evG (SS.lat x.1))] ∧ 4 = 4 ∧ SS.ok x.1 ∧ List.length (SS.evs x.1) ≤ 1000 ∧ zC x.2) fun n => .all (fun (r : Int) => r = SS.errA n.1 n.2) fun n_1 => .ite (!decide (n_1 = 0)) (.leaf (.ret [.agg [.nils], .int .i64 n_1] [.box [.sl l.length 9 (evG l)], .box [.int .u8 e.kind, .int .i64 e.id, .int .i64 e.entry, .int .i64 e.target, .int .i64 e.date, .str e.zb, .str e.name, .str e.value, .bool e.first], .box [.nils], .box [.osl 4 9 0 (List.length (SS.evs (SS.add n.1 n.2))), .omap 5, .osl 6 9 0 (List.length (SS.lat (SS.add n.1 n.2)))], .arr (List.length (SS.evs (SS.add n.1 n.2))) 9 (evG (SS.evs (SS.add n.1 n.2))), Blk.map true [Sum.inl .u8, Sum.inr false, Sum.inr false, Sum.inl .i64] (zo (SS.lat (SS.add n.1 n.2))) (zz (SS.lat (SS.add n.1 n.2))), .arr (List.length (SS.lat (SS.add n.1 n.2))) 9 (evG (SS.lat (SS.add n.1 n.2)))])) (.leaf (.ret [.agg [.osl 4 9 0 (List.length (SS.evs (SS.add n.1 n.2)))], .int .i64 0] [.box [.sl l.length 9 (evG l)], .box [.int .u8 e.kind, .int .i64 e.id, .int .i64 e.entry, .int .i64 e.target, .int .i64 e.date, .str e.zb, .str e.name, .str e.value, .bool e.first], .box [.osl 4 9 0 (List.length (SS.evs (SS.add n.1 n.2)))], .box [.osl 4 9 0 (List.length (SS.evs (SS.add n.1 n.2))), .omap 5, .osl 6 9 0 (List.length (SS.lat (SS.add n.1 n.2)))], .arr (List.length (SS.evs (SS.add n.1 n.2))) 9 (evG (SS.evs (SS.add n.1 n.2))), Blk.map true [Sum.inl .u8, Sum.inr false, Sum.inr false, Sum.inl .i64] (zo (SS.lat (SS.add n.1 n.2))) (zz (SS.lat (SS.add n.1 n.2))), .arr (List.length (SS.lat (SS.add n.1 n.2))) 9 (evG (SS.lat (SS.add n.1 n.2)))])))) (.ite true (.leaf (.ret [.agg [.nils], .int .i64 8] [.box [.sl l.length 9 (evG l)], .box [.int .u8 e.kind, .int .i64 e.id, .int .i64 e.entry, .int .i64 e.target, .int .i64 e.date, .str e.zb, .str e.name, .str e.value, .bool e.first], .box [.nils]])) (.ex (fun (x : SS × Ev) => eqL [AV.nilp, AV.agg [AV.int .u8 e.kind, AV.int .i64 e.id, AV.int .i64 e.entry, AV.int .i64 e.target, AV.int .i64 e.date, AV.str e.zb, AV.str e.name, AV.str e.value, AV.bool e.first]] [AV.ptr 0 0, AV.agg [AV.int .u8 x.2.kind, AV.int .i64 x.2.id, AV.int .i64 x.2.entry, AV.int .i64 x.2.target, AV.int .i64 x.2.date, AV.str x.2.zb, AV.str x.2.name, AV.str x.2.value, AV.bool x.2.first]] ∧ eqH [] [.box [AV.osl 1 9 0 (List.length (SS.evs x.1)), AV.omap 2, AV.osl 3 9 0 (List.length (SS.lat x.1))], .arr (List.length (SS.evs x.1)) 9 (evG (SS.evs x.1)), Blk.map true [Sum.inl .u8, Sum.inr false, Sum.inr false, Sum.inl .i64] (zo (SS.lat x.1)) (zz (SS.lat x.1)), .arr (List.length (SS.lat x.1)) 9 (evG (SS.lat x.1))] ∧ 0 = 4 ∧ SS.ok x.1 ∧ List.length (SS.evs x.1) ≤ 1000 ∧ zC x.2) fun n => .all (fun (r : Int) => r = SS.errA n.1 n.2) fun n_1 => .ite (!decide (n_1 = 0)) (.leaf (.ret [.agg [.nils], .int .i64 n_1] [.box [.sl l.length 9 (evG l)], .box [.int .u8 e.kind, .int .i64 e.id, .int .i64 e.entry, .int .i64 e.target, .int .i64 e.date, .str e.zb, .str e.name, .str e.value, .bool e.first], .box [.nils], .box [.osl 4 9 0 (List.length (SS.evs (SS.add n.1 n.2))), .omap 5, .osl 6 9 0 (List.length (SS.lat (SS.add n.1 n.2)))], .arr (List.length (SS.evs (SS.add n.1 n.2))) 9 (evG (SS.evs (SS.add n.1 n.2))), Blk.map true [Sum.inl .u8, Sum.inr false, Sum.inr false, Sum.inl .i64] (zo (SS.lat (SS.add n.1 n.2))) (zz (SS.lat (SS.add n.1 n.2))), .arr (List.length (SS.lat (SS.add n.1 n.2))) 9 (evG (SS.lat (SS.add n.1 n.2)))])) .fail))) (by kernel_rfl) ?_
 simp only [Tree.holds, ze]
 obtain ⟨hl, he⟩ := hp
 have bad : ∀ (z : Int) (h : Heap), appS l e = ([], z) → RetR Xz 0 (upQ Q) [.agg [.nils], .int .i64 z] h := fun z h hr => by
  simp only [hr] at hq
  exact K5 z h hq
 refine ⟨l, ⟨by simp [za], hl⟩, fun h => ?_, fun h => ?_⟩
 ·obtain ⟨t, ht⟩ := Option.isSome_iff_exists.1 h
  refine ⟨⟨t, ht⟩, fun s hs => ⟨fun g => (by cases g), fun _ => ?_⟩⟩
  obtain ⟨a1, a2, a3⟩ := Ui hs
  refine ⟨(s, e), ⟨by simp [Ev.av], by simp [za], trivial, a1, a3, he⟩, ⟨_, rfl⟩, ?_⟩
  rintro _ rfl
  dsimp only
  refine ⟨fun g => ?_, fun g => ?_⟩
  ·have g : s.errA e ≠ 0 := by simpa using g
   exact bad _ _ (by unfold appS; rw [hs]; simp only; rw [if_pos g])
  ·have g : s.errA e = 0 := by simpa using g
   have hr : appS l e = (s.evs ++ [e], 0) := by unfold appS; rw [hs]; simp only; rw [if_neg (by simpa using g)]
   simp only [hr] at hq
   obtain ⟨b1, b2⟩ := yk g
   rw [b1]
   refine RetR.outs [4] rfl rfl (.inl hq) (fun _ => ⟨?_, ?_⟩) ?_ ?_ rfl
   ·simp [resV, new2, new1, new0, zw, zP]
   ·simp only [List.mem_cons, List.not_mem_nil, or_false, forall_eq]
    exact Yo (za _ _ _)
   ·simp [resV, exp2, exp1, exp0, ren0, zw, eqA2, eqL1]
   ·simp [expH, expB, za]
 ·refine ⟨fun _ => bad _ _ ?_, fun g => (by cases g)⟩
  unfold appS
  cases hs : SS.play ⟨[], []⟩ l with
  | none => rfl
  | some s => rw [hs] at h; cases h
end Go.Proofs.Try
end

/- The reference's store: what it accepts. -/
section
set_option maxRecDepth 100000
open Go Go.Sx Go.Proofs Go.Nov
namespace Go.Proofs.Try
attribute [local simp] eqKV eqA eqA0 eqH eqB eqL eqL0
noncomputable def K55 : List Go.Sx.Item := [.code (Try.f55.body.getD .skip)]
noncomputable def K31 : List Go.Sx.Item := [.code (Try.f31.body.getD .skip)]
noncomputable def K16 : List Go.Sx.Item := [.code (Try.f16.body.getD .skip)]
def Ys : Ctr := ctrP true (fun e : Ev => [e.av]) (fun _ => True) (fun e r => r = e.fact) (fun _ (r : Bool) => (.bool r, []))
theorem KN : zf Try.prog 54 Ys := by
 refine zn (fn := Try.f54) (c := Try.f54.body.getD .skip) rfl rfl rfl fun e hp O w0 Q hq => ?_
 replace hq := hq _ rfl
 refine zc.run hmix z2 [] 400 (T := .leaf (.ret [.bool (bif decide (Ev.kind e = 1) then true else decide (Ev.kind e = 2))] [.box [.int .u8 e.kind, .int .i64 e.id, .int .i64 e.entry, .int .i64 e.target, .int .i64 e.date, .str e.zb, .str e.name, .str e.value, .bool e.first]])) (by kernel_rfl) ?_
 simp only [Tree.holds, ze]
 refine RetR.scal hq rfl ?_
 simp only [resV, Ev.fact]
 cases decide (e.kind = 1) <;> rfl
def Wp : Ctr := ctrP true (fun p : Ev × Ev => [p.1.av, p.2.av]) (fun _ => True) (fun p r => r = kQ p.1 p.2) (fun _ (r : Bool) => (.bool r, []))
theorem Xg : zf Try.prog 56 Wp := by
 refine zn (fn := Try.f56) (c := Try.f56.body.getD .skip) rfl rfl rfl fun p hp O w0 Q hq => ?_
 obtain ⟨a, b⟩ := p
 replace hq := hq _ rfl
 refine zc.run hmix z2 [] 400 (T := .leaf (.ret [.bool (bif bif bif decide (Ev.kind a = Ev.kind b) then decide (Ev.zb a = Ev.zb b) else false then decide (Ev.name a = Ev.name b) else false then decide (Ev.date a = Ev.date b) else false)] [.box [.int .u8 a.kind, .int .i64 a.id, .int .i64 a.entry, .int .i64 a.target, .int .i64 a.date, .str a.zb, .str a.name, .str a.value, .bool a.first], .box [.int .u8 b.kind, .int .i64 b.id, .int .i64 b.entry, .int .i64 b.target, .int .i64 b.date, .str b.zb, .str b.name, .str b.value, .bool b.first]])) (by kernel_rfl) ?_
 simp only [Tree.holds, ze]
 refine RetR.scal hq rfl ?_
 simp only [resV, kQ, wT]
def Yw : Ctr := ctrP true (fun p : List Ev × Int => [evS p.1, .int .i64 p.2]) (fun p => p.1.length < 2 ^ 40) (fun p r => r = qv p.1 p.2) (fun _ (r : Bool) => (.bool r, []))
def SCn (l : List Ev) (id : Int) (i : Nat) : KV := [(0, evS l), (1, .int .i64 id), (5, .int .i64 i), (19, .undef), (20, .undef), (21, .undef), (22, .undef), (23, .undef), (24, .undef), (25, .undef)]
theorem XN : zf Try.prog 55 Yw := by
 refine zn (fn := Try.f55) (c := Try.f55.body.getD .skip) rfl rfl rfl fun p hp O w0 Q hq => ?_
 obtain ⟨l, id⟩ := p
 replace hq := hq _ rfl
 simp only at hq hp
 refine zc.run hmix z2 [0, 1, 5, 19, 20, 21, 22, 23, 24, 25] 400 (T := .leaf (.loop (Prod.fst (lps K55 0)) (Prod.snd (lps K55 0)) [(0, .sl l.length 9 (evG l)), (1, .int .i64 id), (5, .int .i64 0), (19, .undef), (20, .undef), (21, .undef), (22, .undef), (23, .undef), (24, .undef), (25, .undef)] [])) (by kernel_rfl) ?_
 simp only [Tree.holds, ze]
 refine zc.loop (ι := {i : Nat // i ≤ l.length ∧ ∀ j, j < i → (decide ((l.getD j Ev.nil).kind = 5) && decide ((l.getD j Ev.nil).target = id)) = false}) (fun i => SCn l id i.1) (fun _ => []) (fun i => l.length - i.1) ⟨0, Nat.zero_le _, fun j hj => by omega⟩ 0 ?_ ?_ (by kernel_rfl)
 ·exact ⟨by simp [SCn, evS, za], by simp, by kernel_rfl, Nat.zero_le _⟩
 ·rintro ⟨i, hil, hbe⟩
  refine zc.run hmix z2 [0, 1, 5, 19, 20, 21, 22, 23, 24, 25] 400 (T := .ite (decide ((↑i : Int) < l.length)) (.side ((0 : Int) ≤ i ∧ (↑i : Int) < l.length) (.side (decide (Ev.kind (List.getD l (Int.toNat (↑i : Int)) Ev.nil) = (5 : Int)) = true → (0 : Int) ≤ i ∧ (↑i : Int) < l.length) (.ite (bif decide (Ev.kind (List.getD l (Int.toNat (↑i : Int)) Ev.nil) = (5 : Int)) then decide (Ev.target (List.getD l (Int.toNat (↑i : Int)) Ev.nil) = id) else false) (.leaf (.ret [.bool true] [])) (.side (inR .i64 ((↑i : Int) + (1 : Int))) (.leaf (.back 0 [(0, .sl l.length 9 (evG l)), (1, .int .i64 id), (5, .int .i64 ((↑i : Int) + (1 : Int))), (19, .undef), (20, .undef), (21, .undef), (22, .undef), (23, .undef), (24, .undef), (25, .undef)] [])))))) (.leaf (.ret [.bool false] []))) (by kernel_rfl) ?_
  simp only [Tree.holds, ze, Int.toNat_natCast, inR, lo, hi, wT]
  refine ⟨fun h => ?_, fun h => ?_⟩
  ·have hlt : i < l.length := by have := of_decide_eq_true h; omega
   refine ⟨by omega, fun _ => ⟨fun _ => by omega, fun _ => ⟨fun h => ?_, fun h => ⟨by omega, fun _ => ?_⟩⟩⟩⟩
   ·refine RetR.scal hq rfl ?_
    have : qv l id = true := List.any_eq_true.2 ⟨_, List.getElem_mem hlt, by rw [← qE (z := Ev.nil) hlt]; exact h⟩
    rw [this]; rfl
   ·rw [if_pos trivial]
    refine ⟨⟨i + 1, hlt, fun j hj => ?_⟩, by show l.length - (i + 1) < l.length - i; omega, ⟨by simp [SCn, evS, za], by simp, by kernel_rfl, Nat.zero_le _⟩⟩
    by_cases e : j = i
    ·rw [e]; exact h
    ·exact hbe j (by omega)
  ·have hge : i = l.length := by have := of_decide_eq_false h; omega
   subst hge
   refine RetR.scal hq rfl ?_
   have : qv l id = false := by
    unfold qv
    rw [← Vh (z := Ev.nil)]
    rw [List.any_eq_false]
    intro j hj
    rw [hbe j (List.mem_range.1 hj)]; decide
   rw [this]; rfl
theorem JK (x y : Bool) : (bif x then true else y) = (x || y) := by cases x <;> rfl
def SAc (l : List Ev) (i : Nat) : KV := [(0, evS l), (3, .ptr 0 0), (5, .int .i64 l.length), (7, .int .i64 i), (93, .undef), (94, .undef), (95, .undef), (96, .undef), (97, .undef)]
def accC : Ctr := ctrP true (fun p : List Ev × Ev => [evS p.1, p.2.av]) (fun p => p.1.length < 2 ^ 40 ∧ zC p.2) (fun p r => r = accR p.1 p.2) (fun _ (r : Int) => (.int .i64 r, []))
noncomputable def GAc : Nat → Option Ctr := fun f => if f = 54 then some (Ys) else if f = 56 then some (Wp) else if f = 55 then some (Yw) else if f = 53 then some (Jy) else none
theorem KI : ∀ g c, GAc g = some c → zf Try.prog g c := okIf KN (okIf Xg (okIf XN (okIf KG (z3))))
theorem Xl : zf Try.prog 31 accC := by
 refine zn (fn := Try.f31) (c := Try.f31.body.getD .skip) rfl rfl rfl fun p hp O w0 Q hq => ?_
 obtain ⟨l, e⟩ := p
 replace hq := hq _ rfl
 simp only at hq hp
 refine zc.run hmix KI [0, 3, 5, 7, 93, 94, 95, 96, 97] 400 (T := .ex (fun (x : Ev) => eqL [AV.agg [AV.int .u8 e.kind, AV.int .i64 e.id, AV.int .i64 e.entry, AV.int .i64 e.target, AV.int .i64 e.date, AV.str e.zb, AV.str e.name, AV.str e.value, AV.bool e.first]] [AV.agg [AV.int .u8 x.kind, AV.int .i64 x.id, AV.int .i64 x.entry, AV.int .i64 x.target, AV.int .i64 x.date, AV.str x.zb, AV.str x.name, AV.str x.value, AV.bool x.first]] ∧ zC x) fun n => .all (fun (r : Bool) => r = Ev.valid n) fun n => .side ((!n) = false → inR .i64 ((↑l.length : Int) + (1 : Int))) (.ite (bif !n then true else !decide (Ev.id e = (↑l.length : Int) + (1 : Int))) (.leaf (.ret [.int .i64 2] [.box [.int .u8 e.kind, .int .i64 e.id, .int .i64 e.entry, .int .i64 e.target, .int .i64 e.date, .str e.zb, .str e.name, .str e.value, .bool e.first]])) (.side (decide ((0 : Int) < l.length) = true → inR .i64 ((↑l.length : Int) - (1 : Int))) (.side (decide ((0 : Int) < l.length) = true → (0 : Int) ≤ l.length - (1 : Int) ∧ (↑l.length : Int) - (1 : Int) < l.length) (.ite (bif decide ((0 : Int) < l.length) then decide (Ev.entry e < Ev.entry (List.getD l (Int.toNat ((↑l.length : Int) - (1 : Int))) Ev.nil)) else false) (.leaf (.ret [.int .i64 21] [.box [.int .u8 e.kind, .int .i64 e.id, .int .i64 e.entry, .int .i64 e.target, .int .i64 e.date, .str e.zb, .str e.name, .str e.value, .bool e.first]])) (.ite (decide ((1000 : Int) ≤ l.length)) (.leaf (.ret [.int .i64 22] [.box [.int .u8 e.kind, .int .i64 e.id, .int .i64 e.entry, .int .i64 e.target, .int .i64 e.date, .str e.zb, .str e.name, .str e.value, .bool e.first]])) (.ex (fun (x : Ev) => eqL [AV.agg [AV.int .u8 e.kind, AV.int .i64 e.id, AV.int .i64 e.entry, AV.int .i64 e.target, AV.int .i64 e.date, AV.str e.zb, AV.str e.name, AV.str e.value, AV.bool e.first]] [AV.agg [AV.int .u8 x.kind, AV.int .i64 x.id, AV.int .i64 x.entry, AV.int .i64 x.target, AV.int .i64 x.date, AV.str x.zb, AV.str x.name, AV.str x.value, AV.bool x.first]] ∧ True) fun n => .all (fun (r : Bool) => r = Ev.fact n) fun n => .ite (!n) (.side (decide ((↑l.length : Int) < Ev.target e) = false → inR .i64 (Ev.target e - (1 : Int))) (.side (decide ((↑l.length : Int) < Ev.target e) = false → (0 : Int) ≤ Ev.target e - (1 : Int) ∧ Ev.target e - (1 : Int) < l.length) (.ex (fun (x : Ev) => decide ((↑l.length : Int) < Ev.target e) = false → eqL [AV.agg [AV.int .u8 (Ev.kind (List.getD l (Int.toNat (Ev.target e - (1 : Int))) Ev.nil)), AV.int .i64 (Ev.id (List.getD l (Int.toNat (Ev.target e - (1 : Int))) Ev.nil)), AV.int .i64 (Ev.entry (List.getD l (Int.toNat (Ev.target e - (1 : Int))) Ev.nil)), AV.int .i64 (Ev.target (List.getD l (Int.toNat (Ev.target e - (1 : Int))) Ev.nil)), AV.int .i64 (Ev.date (List.getD l (Int.toNat (Ev.target e - (1 : Int))) Ev.nil)), AV.str (Ev.zb (List.getD l (Int.toNat (Ev.target e - (1 : Int))) Ev.nil)), AV.str (Ev.name (List.getD l (Int.toNat (Ev.target e - (1 : Int))) Ev.nil)), AV.str (Ev.value (List.getD l (Int.toNat (Ev.target e - (1 : Int))) Ev.nil)), AV.bool (Ev.first (List.getD l (Int.toNat (Ev.target e - (1 : Int))) Ev.nil))]] [AV.agg [AV.int .u8 x.kind, AV.int .i64 x.id, AV.int .i64 x.entry, AV.int .i64 x.target, AV.int .i64 x.date, AV.str x.zb, AV.str x.name, AV.str x.value, AV.bool x.first]] ∧ True) fun n => .all (fun (x : Bool) => decide ((↑l.length : Int) < Ev.target e) = false → x = Ev.fact n) fun n => .ex (fun (x : List Ev × Int) => (bif decide ((↑l.length : Int) < Ev.target e) then true else !n) = false → eqL [AV.sl l.length 9 (evG l), AV.int .i64 e.target] [AV.sl x.1.length 9 (evG x.1), AV.int .i64 x.2] ∧ x.1.length < 1099511627776) fun n_1 => .all (fun (x : Bool) => (bif decide ((↑l.length : Int) < Ev.target e) then true else !n) = false → x = qv n_1.1 n_1.2) fun n_2 => .ite (bif bif decide ((↑l.length : Int) < Ev.target e) then true else !n then true else n_2) (.leaf (.ret [.int .i64 6] [.box [.int .u8 e.kind, .int .i64 e.id, .int .i64 e.entry, .int .i64 e.target, .int .i64 e.date, .str e.zb, .str e.name, .str e.value, .bool e.first]])) (.side (inR .i64 (Ev.target e - (1 : Int))) (.side ((0 : Int) ≤ Ev.target e - (1 : Int) ∧ Ev.target e - (1 : Int) < l.length) (.ite (bif bif decide (Ev.kind e = 3) then decide (Ev.kind (List.getD l (Int.toNat (Ev.target e - (1 : Int))) Ev.nil) = (2 : Int)) else false then true else bif decide (Ev.kind e = 4) then decide (Ev.kind (List.getD l (Int.toNat (Ev.target e - (1 : Int))) Ev.nil) = (1 : Int)) else false) (.leaf (.ret [.int .i64 32] [.box [.int .u8 e.kind, .int .i64 e.id, .int .i64 e.entry, .int .i64 e.target, .int .i64 e.date, .str e.zb, .str e.name, .str e.value, .bool e.first]])) (.leaf (.ret [.int .i64 0] [.box [.int .u8 e.kind, .int .i64 e.id, .int .i64 e.entry, .int .i64 e.target, .int .i64 e.date, .str e.zb, .str e.name, .str e.value, .bool e.first]])))))))) (.leaf (.loop (Prod.fst (lps K31 0)) (Prod.snd (lps K31 0)) [(0, .sl l.length 9 (evG l)), (3, .ptr 0 0), (5, .int .i64 l.length), (7, .int .i64 0), (93, .undef), (94, .undef), (95, .undef), (96, .undef), (97, .undef)] [.box [.int .u8 e.kind, .int .i64 e.id, .int .i64 e.entry, .int .i64 e.target, .int .i64 e.date, .str e.zb, .str e.name, .str e.value, .bool e.first]]))))))))) (by kernel_rfl) ?_
 simp only [Tree.holds, ze]
 obtain ⟨hl, he⟩ := hp
 have fin : ∀ (z : Int) (h : Heap), accR l e = z → RetR accC 0 Q [.int .i64 z] h := by
  rintro z h rfl
  exact RetR.scal hq rfl rfl
 simp only [inR, lo, hi, wT, JK]
 have ei : ∀ t : Int, (t - 1).toNat = t.toNat - 1 := fun t => by omega
 simp only [ei]
 refine ⟨e, ⟨by simp [Ev.av], he⟩, ⟨_, rfl⟩, ?_⟩
 rintro _ rfl
 refine ⟨fun _ => by omega, fun _ => ⟨fun h => ?_, fun h => ?_⟩⟩
 ·refine fin _ _ ?_
  unfold accR
  rw [if_pos]
  cases hv : e.valid with
  | false => exact .inl rfl
  | true => rw [hv] at h; right; simpa using h
 have h2 : ¬ (e.valid = false ∨ e.id ≠ l.length + 1) := by
  cases hv : e.valid with
  | false => rw [hv] at h; simp at h
  | true => rw [hv] at h; simpa using h
 clear h
 have hv : e.valid = true := by
  cases hv : e.valid
  ·exact absurd (.inl hv) h2
  ·rfl
 refine ⟨fun g => by have := of_decide_eq_true g; omega, fun _ => ⟨fun g => by have := of_decide_eq_true g; omega, fun _ => ⟨fun h => ?_, fun h => ?_⟩⟩⟩
 ·refine fin _ _ ?_
  unfold accR
  rw [if_neg h2, if_pos]
  rw [Bool.and_eq_true, decide_eq_true_eq, decide_eq_true_eq] at h
  rw [show ((l.length : Int)).toNat - 1 = l.length - 1 by omega] at h
  exact ⟨by omega, h.2⟩
 have h21 : ¬ (0 < l.length ∧ e.entry < (l.getD (l.length - 1) Ev.nil).entry) := by
  rw [Bool.and_eq_false_iff, decide_eq_false_iff_not, decide_eq_false_iff_not] at h
  rw [show ((l.length : Int)).toNat - 1 = l.length - 1 by omega] at h
  rintro ⟨g1, g2⟩
  rcases h with h | h
  ·omega
  ·exact h g2
 clear h
 refine ⟨fun h => ?_, fun h => ?_⟩
 ·refine fin _ _ ?_
  unfold accR
  rw [if_neg h2, if_neg h21, if_pos]
  have := of_decide_eq_true h
  omega
 have h22 : ¬ 1000 ≤ l.length := by have := of_decide_eq_false h; omega
 clear h
 refine ⟨e, ⟨by simp [Ev.av], trivial⟩, ⟨_, rfl⟩, ?_⟩
 rintro _ rfl
 refine ⟨fun hf => ?_, fun hf => ?_⟩
 ·have hf : e.fact = false := by simpa using hf
  have ht : 1 ≤ e.target := u0 hv hf
  have key : accR l e = if (l.length : Int) < e.target ∨ (l.getD (e.target.toNat - 1) Ev.nil).fact = false ∨ qv l e.target = true then 6
   else if e.kind = 3 ∧ (l.getD (e.target.toNat - 1) Ev.nil).kind = 2 ∨ e.kind = 4 ∧ (l.getD (e.target.toNat - 1) Ev.nil).kind = 1 then 32 else 0 := by
   unfold accR; rw [if_neg h2, if_neg h21, if_neg h22, if_pos hf]
  generalize hx : l.getD (e.target.toNat - 1) Ev.nil = x at key
  refine ⟨fun g => by have := of_decide_eq_false g; omega, fun _ => ⟨fun g => by have := of_decide_eq_false g; omega, fun _ => ?_⟩⟩
  refine ⟨x, fun _ => ⟨by simp [Ev.av], trivial⟩, ⟨_, fun _ => rfl⟩, ?_⟩
  intro b1 hb1
  refine ⟨(l, e.target), fun _ => ⟨by simp [za], hl⟩, ⟨_, fun _ => rfl⟩, ?_⟩
  intro b2 hb2
  have hc : (decide ((l.length : Int) < e.target) || !b1 || b2) = true ↔ (l.length : Int) < e.target ∨ x.fact = false ∨ qv l e.target = true := by
   cases hd : decide ((l.length : Int) < e.target) with
   | true => simpa using Or.inl (of_decide_eq_true hd)
   | false =>
    rw [hd] at hb1 hb2
    have hd := of_decide_eq_false hd
    rw [hb1 rfl] at hb2 ⊢
    cases hxf : x.fact with
    | false => simp
    | true =>
     rw [hxf] at hb2
     rw [hb2 rfl]
     simp only [Bool.false_or, Bool.not_true]
     exact ⟨fun h => .inr (.inr h), fun h => h.elim (fun h => absurd h hd) fun h => h.elim (fun h => by cases h) id⟩
  refine ⟨fun h => ?_, fun h => ?_⟩
  ·rw [if_pos (hc.1 h)] at key
   exact fin _ _ key
  ·have hn : ¬ ((l.length : Int) < e.target ∨ x.fact = false ∨ qv l e.target = true) := fun g => by rw [hc.2 g] at h; cases h
   rw [if_neg hn] at key
   refine ⟨by omega, fun _ => ⟨by omega, fun _ => ⟨fun h => ?_, fun h => ?_⟩⟩⟩
   ·rw [if_pos] at key
    ·exact fin _ _ key
    ·simpa using h
   ·rw [if_neg] at key
    ·exact fin _ _ key
    ·intro g
     have : (decide (e.kind = 3) && decide (x.kind = 2) || decide (e.kind = 4) && decide (x.kind = 1)) = true := by simpa using g
     rw [this] at h; cases h
 ·have hf : e.fact = true := by simpa using hf
  have key : accR l e = if jW l e l.length then 24 else 0 := by
   unfold accR; rw [if_neg h2, if_neg h21, if_neg h22, if_neg (by rw [hf]; decide)]
  refine zc.loop (ι := {i : Nat // i ≤ l.length ∧ jW l e i = false}) (fun i => SAc l i.1) (fun _ => [.box [.int .u8 e.kind, .int .i64 e.id, .int .i64 e.entry, .int .i64 e.target, .int .i64 e.date, .str e.zb, .str e.name, .str e.value, .bool e.first]]) (fun i => l.length - i.1) ⟨0, Nat.zero_le _, rfl⟩ 0 ?_ ?_ (by kernel_rfl)
  ·exact ⟨by simp [SAc, evS, za], by simp, by kernel_rfl, Nat.zero_le _⟩
  ·rintro ⟨i, hil, hbe⟩
   refine zc.run hmix KI [0, 3, 5, 7, 93, 94, 95, 96, 97] 400 (T := .ite (decide ((↑i : Int) < l.length)) (.side ((0 : Int) ≤ i ∧ (↑i : Int) < l.length) (.ex (fun (x : Ev × Ev) => eqL [AV.agg [AV.int .u8 (Ev.kind (List.getD l (Int.toNat (↑i : Int)) Ev.nil)), AV.int .i64 (Ev.id (List.getD l (Int.toNat (↑i : Int)) Ev.nil)), AV.int .i64 (Ev.entry (List.getD l (Int.toNat (↑i : Int)) Ev.nil)), AV.int .i64 (Ev.target (List.getD l (Int.toNat (↑i : Int)) Ev.nil)), AV.int .i64 (Ev.date (List.getD l (Int.toNat (↑i : Int)) Ev.nil)), AV.str (Ev.zb (List.getD l (Int.toNat (↑i : Int)) Ev.nil)), AV.str (Ev.name (List.getD l (Int.toNat (↑i : Int)) Ev.nil)), AV.str (Ev.value (List.getD l (Int.toNat (↑i : Int)) Ev.nil)), AV.bool (Ev.first (List.getD l (Int.toNat (↑i : Int)) Ev.nil))], AV.agg [AV.int .u8 e.kind, AV.int .i64 e.id, AV.int .i64 e.entry, AV.int .i64 e.target, AV.int .i64 e.date, AV.str e.zb, AV.str e.name, AV.str e.value, AV.bool e.first]] [AV.agg [AV.int .u8 x.1.kind, AV.int .i64 x.1.id, AV.int .i64 x.1.entry, AV.int .i64 x.1.target, AV.int .i64 x.1.date, AV.str x.1.zb, AV.str x.1.name, AV.str x.1.value, AV.bool x.1.first], AV.agg [AV.int .u8 x.2.kind, AV.int .i64 x.2.id, AV.int .i64 x.2.entry, AV.int .i64 x.2.target, AV.int .i64 x.2.date, AV.str x.2.zb, AV.str x.2.name, AV.str x.2.value, AV.bool x.2.first]] ∧ True) fun n => .all (fun (r : Bool) => r = kQ n.1 n.2) fun n => .side (n = true → inR .i64 ((↑i : Int) + (1 : Int))) (.ex (fun (x : List Ev × Int) => n = true → eqL [AV.sl l.length 9 (evG l), AV.int .i64 ((↑i : Int) + (1 : Int))] [AV.sl x.1.length 9 (evG x.1), AV.int .i64 x.2] ∧ x.1.length < 1099511627776) fun n_1 => .all (fun (x : Bool) => n = true → x = qv n_1.1 n_1.2) fun n_2 => .ite (bif n then !n_2 else false) (.leaf (.ret [.int .i64 24] [.box [.int .u8 e.kind, .int .i64 e.id, .int .i64 e.entry, .int .i64 e.target, .int .i64 e.date, .str e.zb, .str e.name, .str e.value, .bool e.first]])) (.side (inR .i64 ((↑i : Int) + (1 : Int))) (.leaf (.back 0 [(0, .sl l.length 9 (evG l)), (3, .ptr 0 0), (5, .int .i64 l.length), (7, .int .i64 ((↑i : Int) + (1 : Int))), (93, .undef), (94, .undef), (95, .undef), (96, .undef), (97, .undef)] [.box [.int .u8 e.kind, .int .i64 e.id, .int .i64 e.entry, .int .i64 e.target, .int .i64 e.date, .str e.zb, .str e.name, .str e.value, .bool e.first]])))))) (.leaf (.ret [.int .i64 0] [.box [.int .u8 e.kind, .int .i64 e.id, .int .i64 e.entry, .int .i64 e.target, .int .i64 e.date, .str e.zb, .str e.name, .str e.value, .bool e.first]]))) (by kernel_rfl) ?_
   simp only [Tree.holds, ze, Int.toNat_natCast, inR, lo, hi, wT]
   refine ⟨fun h => ?_, fun h => ?_⟩
   ·have hlt : i < l.length := by have := of_decide_eq_true h; omega
    have hst : jW l e (i + 1) = (jW l e i || (kQ (l.getD i Ev.nil) e && !qv l (i + 1))) := by
     unfold jW
     rw [List.range_succ, List.any_append]
     simp
    generalize hx : l.getD i Ev.nil = x at hst ⊢
    refine ⟨by omega, fun _ => ?_⟩
    refine ⟨(x, e), ⟨by simp [Ev.av], trivial⟩, ⟨_, rfl⟩, ?_⟩
    rintro _ rfl
    refine ⟨fun _ => by omega, fun _ => ⟨(l, (i : Int) + 1), fun _ => ⟨by simp [za], hl⟩, ⟨_, fun _ => rfl⟩, ?_⟩⟩
    intro b hb
    dsimp only at hb ⊢
    have hs : (kQ x e && !b) = jW l e (i + 1) := by
     rw [hst, hbe, Bool.false_or]
     cases hs : kQ x e with
     | false => rfl
     | true => rw [hb hs]
    rw [hs]
    refine ⟨fun h => ?_, fun h => ⟨by omega, fun _ => ?_⟩⟩
    ·have : jW l e l.length = true := by
      unfold jW at h ⊢
      rw [List.any_eq_true] at h ⊢
      obtain ⟨j, hj, hp⟩ := h
      exact ⟨j, List.mem_range.2 (by have := List.mem_range.1 hj; omega), hp⟩
     rw [if_pos this] at key
     exact fin _ _ key
    ·rw [if_pos trivial]
     exact ⟨⟨i + 1, hlt, h⟩, by show l.length - (i + 1) < l.length - i; omega, ⟨by simp [SAc, evS, za], by simp, by kernel_rfl, Nat.zero_le _⟩⟩
   ·have hge : i = l.length := by have := of_decide_eq_false h; omega
    subst hge
    rw [hbe] at key
    exact fin _ _ key
def SVl (l : List Ev) (i : Nat) : KV := [(1, .ptr 0 0), (3, .int .i64 i)]
def ZV : Ctr := ctrP true (fun l : List Ev => [.agg [evS l]]) evP (fun l r => r = qO l) (fun _ (r : Bool) => (.bool r, []))
noncomputable def GVl : Nat → Option Ctr := fun f => if f = 31 then some (accC) else none
theorem X5 : ∀ g c, GVl g = some c → zf Try.prog g c := okIf Xl (z3)
theorem uN : zf Try.prog 16 ZV := by
 refine zn (fn := Try.f16) (c := Try.f16.body.getD .skip) rfl rfl rfl fun l hp O w0 Q hq => ?_
 replace hq := hq _ rfl
 refine zc.run hmix X5 [1, 3] 400 (T := .leaf (.loop (Prod.fst (lps K16 0)) (Prod.snd (lps K16 0)) [(1, .ptr 0 0), (3, .int .i64 0)] [.box [.sl l.length 9 (evG l)]])) (by kernel_rfl) ?_
 simp only [Tree.holds, ze]
 refine zc.loop (ι := {i : Nat // i ≤ l.length ∧ ∀ j, j < i → accR (l.take j) (l.getD j Ev.nil) = 0}) (fun i => SVl l i.1) (fun _ => [.box [evS l]]) (fun i => l.length - i.1) ⟨0, Nat.zero_le _, fun j hj => by omega⟩ 0 ?_ ?_ (by kernel_rfl)
 ·exact ⟨by simp [SVl], by simp [evS, za], by kernel_rfl, Nat.zero_le _⟩
 ·rintro ⟨i, hil, hbe⟩
  refine zc.run hmix X5 [1, 3] 400 (T := .ite (decide ((↑i : Int) < l.length)) (.side ((0 : Int) ≤ i ∧ (↑i : Int) ≤ l.length) (.side ((0 : Int) ≤ i ∧ (↑i : Int) < l.length) (.ex (fun (x : List Ev × Ev) => eqL [AV.sl (Int.toNat (↑i : Int) - 0) 9 (zg (evG l) 0), AV.agg [AV.int .u8 (Ev.kind (List.getD l (Int.toNat (↑i : Int)) Ev.nil)), AV.int .i64 (Ev.id (List.getD l (Int.toNat (↑i : Int)) Ev.nil)), AV.int .i64 (Ev.entry (List.getD l (Int.toNat (↑i : Int)) Ev.nil)), AV.int .i64 (Ev.target (List.getD l (Int.toNat (↑i : Int)) Ev.nil)), AV.int .i64 (Ev.date (List.getD l (Int.toNat (↑i : Int)) Ev.nil)), AV.str (Ev.zb (List.getD l (Int.toNat (↑i : Int)) Ev.nil)), AV.str (Ev.name (List.getD l (Int.toNat (↑i : Int)) Ev.nil)), AV.str (Ev.value (List.getD l (Int.toNat (↑i : Int)) Ev.nil)), AV.bool (Ev.first (List.getD l (Int.toNat (↑i : Int)) Ev.nil))]] [AV.sl x.1.length 9 (evG x.1), AV.agg [AV.int .u8 x.2.kind, AV.int .i64 x.2.id, AV.int .i64 x.2.entry, AV.int .i64 x.2.target, AV.int .i64 x.2.date, AV.str x.2.zb, AV.str x.2.name, AV.str x.2.value, AV.bool x.2.first]] ∧ x.1.length < 1099511627776 ∧ zC x.2) fun n => .all (fun (r : Int) => r = accR n.1 n.2) fun n => .ite (!decide (n = 0)) (.leaf (.ret [.bool false] [.box [.sl l.length 9 (evG l)]])) (.side (inR .i64 ((↑i : Int) + (1 : Int))) (.leaf (.back 0 [(1, .ptr 0 0), (3, .int .i64 ((↑i : Int) + (1 : Int)))] [.box [.sl l.length 9 (evG l)]])))))) (.leaf (.ret [.bool true] [.box [.sl l.length 9 (evG l)]]))) (by kernel_rfl) ?_
  simp only [Tree.holds, ze, Int.toNat_natCast, inR, lo, hi, wT]
  have hall : i = l.length → qO l = true := fun hi => by
   unfold qO
   rw [List.all_eq_true]
   intro j hj
   exact decide_eq_true (hbe j (by have := List.mem_range.1 hj; omega))
  have hlp : ∀ j, zC (l.getD j Ev.nil) := fun j => Z0 hp.2 j
  have hlen := hp.1
  refine ⟨fun h => ?_, fun h => ?_⟩
  ·have hlt : i < l.length := by have := of_decide_eq_true h; omega
   refine ⟨by omega, fun _ => ⟨by omega, fun _ => ?_⟩⟩
   refine ⟨(l.take i, l.getD i Ev.nil), ⟨⟨⟨by simp; omega, rfl, ?_⟩, by simp [Ev.av], trivial⟩, by simp; omega, hlp i⟩, ⟨_, rfl⟩, ?_⟩
   ·intro j o hj ho
    simp only [zg, evG, Nat.zero_add]
    congr 1
    simp only [List.getD]
    rw [List.getElem?_take, if_pos (by omega)]
   rintro _ rfl
   refine ⟨fun h => ?_, fun h => ⟨by omega, fun _ => ?_⟩⟩
   ·have h : accR (l.take i) (l.getD i Ev.nil) ≠ 0 := by simpa using h
    refine RetR.scal hq rfl ?_
    have : qO l = false := by
     unfold qO
     rw [List.all_eq_false]
     exact ⟨i, List.mem_range.2 hlt, by rw [decide_eq_false h]; decide⟩
    rw [this]; rfl
   ·have h : accR (l.take i) (l.getD i Ev.nil) = 0 := by simpa using h
    rw [if_pos trivial]
    refine ⟨⟨i + 1, hlt, fun j hj => ?_⟩, by show l.length - (i + 1) < l.length - i; omega, ⟨by simp [SVl], by simp [evS, za], by kernel_rfl, Nat.zero_le _⟩⟩
    by_cases e : j = i
    ·rw [e]; exact h
    ·exact hbe j (by omega)
  ·have hge : i = l.length := by have := of_decide_eq_false h; omega
   refine RetR.scal hq rfl ?_
   rw [hall hge]; rfl
end Go.Proofs.Try
end

/- The reference's Append; sizes; the same logs. -/
section
set_option maxRecDepth 100000
open Go Go.Sx Go.Proofs Go.Nov
namespace Go.Proofs.Try
attribute [local simp] eqKV eqA eqA0 eqH eqB eqL eqL0
noncomputable def K10 : List Go.Sx.Item := [.code (Try.f10.body.getD .skip)]
noncomputable def K32 : List Go.Sx.Item := [.code (Try.f32.body.getD .skip)]
def Zb (e : Ev) : Prop := e.zb.length < 2 ^ 49 ∧ e.name.length < 2 ^ 49 ∧ e.value.length < 2 ^ 49
def WS (l : List Ev) : Prop := l.length < 2 ^ 60 ∧ ∀ j, j < l.length → Zb (l.getD j Ev.nil)
def fitL (l : List Ev) : Prop := l.length ≤ 60 ∧ ∀ e ∈ l, zC e
def Kl : Ctr := ctrP true (fun e : Ev => [e.av]) Zb (fun e r => r = false → zC e) (fun _ (r : Bool) => (.bool r, []))
theorem WL : zf Try.prog 11 Kl := by
 refine zn (fn := Try.f11) (c := Try.f11.body.getD .skip) rfl rfl rfl fun e hp O w0 Q hq => ?_
 refine zc.run hmix z2 [] 400 (T := .leaf (.ret [.bool (bif bif decide ((3000 : Int) < e.zb.length) then true else decide ((3000 : Int) < e.name.length) then true else decide ((3000 : Int) < e.value.length))] [.box [.int .u8 e.kind, .int .i64 e.id, .int .i64 e.entry, .int .i64 e.target, .int .i64 e.date, .str e.zb, .str e.name, .str e.value, .bool e.first]])) (by kernel_rfl) ?_
 simp only [Tree.holds, ze, JK]
 refine RetR.scal (hq _ fun h => ?_) rfl rfl
 simp only [Bool.or_eq_false_iff, decide_eq_false_iff_not] at h
 exact ⟨by omega, by omega, by omega⟩
def WK : Ctr := ctrP true (fun l : List Ev => [.agg [evS l]]) WS (fun l r => r = false → fitL l) (fun _ (r : Bool) => (.bool r, []))
def SGl (i : Nat) : KV := [(1, .ptr 0 0), (3, .int .i64 i)]
noncomputable def GGl : Nat → Option Ctr := fun f => if f = 11 then some (Kl) else none
theorem X0 : ∀ g c, GGl g = some c → zf Try.prog g c := okIf WL (z3)
theorem VM : zf Try.prog 10 WK := by
 refine zn (fn := Try.f10) (c := Try.f10.body.getD .skip) rfl rfl rfl fun l hp O w0 Q hq => ?_
 refine zc.run hmix X0 [1, 3] 400 (T := .ite (decide ((60 : Int) < l.length)) (.leaf (.ret [.bool true] [.box [.sl l.length 9 (evG l)]])) (.leaf (.loop (Prod.fst (lps K10 0)) (Prod.snd (lps K10 0)) [(1, .ptr 0 0), (3, .int .i64 0)] [.box [.sl l.length 9 (evG l)]]))) (by kernel_rfl) ?_
 simp only [Tree.holds, ze]
 refine ⟨fun h => RetR.scal (hq true fun g => (by cases g)) rfl rfl, fun h => ?_⟩
 have h60 : l.length ≤ 60 := by have := of_decide_eq_false h; omega
 refine zc.loop (ι := {i : Nat // i ≤ l.length ∧ ∀ j, j < i → zC (l.getD j Ev.nil)}) (fun i => SGl i.1) (fun _ => [.box [evS l]]) (fun i => l.length - i.1) ⟨0, Nat.zero_le _, fun j hj => by omega⟩ 0 ?_ ?_ (by kernel_rfl)
 ·exact ⟨by simp [SGl], by simp [evS, za], by kernel_rfl, Nat.zero_le _⟩
 ·rintro ⟨i, hil, hbe⟩
  refine zc.run hmix X0 [1, 3] 400 (T := .ite (decide ((↑i : Int) < l.length)) (.side ((0 : Int) ≤ i ∧ (↑i : Int) < l.length) (.ex (fun (x : Ev) => eqL [AV.agg [AV.int .u8 (Ev.kind (List.getD l (Int.toNat (↑i : Int)) Ev.nil)), AV.int .i64 (Ev.id (List.getD l (Int.toNat (↑i : Int)) Ev.nil)), AV.int .i64 (Ev.entry (List.getD l (Int.toNat (↑i : Int)) Ev.nil)), AV.int .i64 (Ev.target (List.getD l (Int.toNat (↑i : Int)) Ev.nil)), AV.int .i64 (Ev.date (List.getD l (Int.toNat (↑i : Int)) Ev.nil)), AV.str (Ev.zb (List.getD l (Int.toNat (↑i : Int)) Ev.nil)), AV.str (Ev.name (List.getD l (Int.toNat (↑i : Int)) Ev.nil)), AV.str (Ev.value (List.getD l (Int.toNat (↑i : Int)) Ev.nil)), AV.bool (Ev.first (List.getD l (Int.toNat (↑i : Int)) Ev.nil))]] [AV.agg [AV.int .u8 x.kind, AV.int .i64 x.id, AV.int .i64 x.entry, AV.int .i64 x.target, AV.int .i64 x.date, AV.str x.zb, AV.str x.name, AV.str x.value, AV.bool x.first]] ∧ Zb x) fun n => .all (fun (r : Bool) => r = false → zC n) fun n => .ite n (.leaf (.ret [.bool true] [.box [.sl l.length 9 (evG l)]])) (.side (inR .i64 ((↑i : Int) + (1 : Int))) (.leaf (.back 0 [(1, .ptr 0 0), (3, .int .i64 ((↑i : Int) + (1 : Int)))] [.box [.sl l.length 9 (evG l)]]))))) (.leaf (.ret [.bool false] [.box [.sl l.length 9 (evG l)]]))) (by kernel_rfl) ?_
  simp only [Tree.holds, ze, Int.toNat_natCast, inR, lo, hi]
  refine ⟨fun h => ?_, fun h => ?_⟩
  ·have hlt : i < l.length := by have := of_decide_eq_true h; omega
   refine ⟨by omega, fun _ => ⟨l.getD i Ev.nil, ⟨by simp [Ev.av], hp.2 i hlt⟩, ⟨true, fun g => (by cases g)⟩, ?_⟩⟩
   intro b hb
   refine ⟨fun g => RetR.scal (hq true fun g => (by cases g)) rfl rfl, fun g => ⟨by omega, fun _ => ?_⟩⟩
   rw [if_pos trivial]
   refine ⟨⟨i + 1, hlt, fun j hj => ?_⟩, by show l.length - (i + 1) < l.length - i; omega, ⟨by simp [SGl], by simp [evS, za], by kernel_rfl, Nat.zero_le _⟩⟩
   by_cases e : j = i
   ·rw [e]; exact hb g
   ·exact hbe j (by omega)
  ·have hge : i = l.length := by have := of_decide_eq_false h; omega
   refine RetR.scal (hq false fun _ => ⟨h60, fun e he => ?_⟩) rfl rfl
   obtain ⟨j, hj, rfl⟩ := List.mem_iff_getElem.1 he
   have := hbe j (by omega)
   rwa [qE hj] at this
def W0 : Ctr := ctrP true (fun p : List Ev × Ev => [.agg [evS p.1], p.2.av]) (fun p => evP p.1 ∧ zC p.2) (fun p r => r = appR p.1 p.2) (fun _ (r : List Ev × Int) => (.tup [.agg [evS r.1], .int .i64 r.2], []))
noncomputable def GRa : Nat → Option Ctr := fun f => if f = 16 then some (ZV) else if f = 31 then some (accC) else none
theorem YU : ∀ g c, GRa g = some c → zf Try.prog g c := okIf uN (okIf Xl (z3))
theorem XJ : zf Try.prog 13 W0 := by
 refine zn (fn := Try.f13) (c := Try.f13.body.getD .skip) rfl rfl rfl fun p hp O w0 Q hq => ?_
 obtain ⟨l, e⟩ := p
 replace hq := hq _ rfl
 refine zc.run hmix YU [] 400 (T := .ex (fun (x : List Ev) => eqL [AV.agg [AV.sl l.length 9 (evG l)]] [AV.agg [AV.sl x.length 9 (evG x)]] ∧ evP x) fun n => .all (fun (r : Bool) => r = qO n) fun n => .ite (!n) (.leaf (.ret [.agg [.nils], .int .i64 8] [.box [.sl l.length 9 (evG l)], .box [.int .u8 e.kind, .int .i64 e.id, .int .i64 e.entry, .int .i64 e.target, .int .i64 e.date, .str e.zb, .str e.name, .str e.value, .bool e.first], .box [.nils]])) (.ex (fun (x : List Ev × Ev) => eqL [AV.sl l.length 9 (evG l), AV.agg [AV.int .u8 e.kind, AV.int .i64 e.id, AV.int .i64 e.entry, AV.int .i64 e.target, AV.int .i64 e.date, AV.str e.zb, AV.str e.name, AV.str e.value, AV.bool e.first]] [AV.sl x.1.length 9 (evG x.1), AV.agg [AV.int .u8 x.2.kind, AV.int .i64 x.2.id, AV.int .i64 x.2.entry, AV.int .i64 x.2.target, AV.int .i64 x.2.date, AV.str x.2.zb, AV.str x.2.name, AV.str x.2.value, AV.bool x.2.first]] ∧ x.1.length < 1099511627776 ∧ zC x.2) fun n => .all (fun (r : Int) => r = accR n.1 n.2) fun n => .ite (!decide (n = 0)) (.leaf (.ret [.agg [.nils], .int .i64 n] [.box [.sl l.length 9 (evG l)], .box [.int .u8 e.kind, .int .i64 e.id, .int .i64 e.entry, .int .i64 e.target, .int .i64 e.date, .str e.zb, .str e.name, .str e.value, .bool e.first], .box [.nils]])) (.all (fun (x : Bool) => True) fun n => .ite n (.all (fun (x : Bool) => True) fun n => .ite n (.side (0 = 0 ∧ 0 ≤ 0 ∧ (0 + l.length) * 96 ≤ 140737488355328) (.side (0 = 0 ∧ 0 + l.length ≤ 0 + l.length ∧ (0 + l.length + 1) * 96 ≤ 140737488355328) (.leaf (.ret [.agg [.osl 3 9 0 (0 + l.length + 1)], .int .i64 0] [.box [.sl l.length 9 (evG l)], .box [.int .u8 e.kind, .int .i64 e.id, .int .i64 e.entry, .int .i64 e.target, .int .i64 e.date, .str e.zb, .str e.name, .str e.value, .bool e.first], .box [.osl 3 9 0 (0 + l.length + 1)], .arr (0 + l.length + 1) 9 (appG (0 + l.length) (appG 0 (zd 9 []) (evG l)) (zg (zd 9 [.int .u8 e.kind, .int .i64 e.id, .int .i64 e.entry, .int .i64 e.target, .int .i64 e.date, .str e.zb, .str e.name, .str e.value, .bool e.first]) 0)), .arr 1 9 (zd 9 [.int .u8 e.kind, .int .i64 e.id, .int .i64 e.entry, .int .i64 e.target, .int .i64 e.date, .str e.zb, .str e.name, .str e.value, .bool e.first])])))) (.side (0 = 0 ∧ 0 ≤ 0 ∧ (0 + l.length) * 96 ≤ 140737488355328) (.side (0 = 0 ∧ 0 + l.length ≤ 0 + l.length ∧ (0 + l.length + 1) * 96 ≤ 140737488355328) (.leaf (.ret [.agg [.osl 3 9 0 (0 + l.length + 1)], .int .i64 0] [.box [.sl l.length 9 (evG l)], .box [.int .u8 e.kind, .int .i64 e.id, .int .i64 e.entry, .int .i64 e.target, .int .i64 e.date, .str e.zb, .str e.name, .str e.value, .bool e.first], .box [.osl 3 9 0 (0 + l.length + 1)], .arr (0 + l.length + 1) 9 (appG (0 + l.length) (appG 0 (zd 9 []) (evG l)) (zg (zd 9 [.int .u8 e.kind, .int .i64 e.id, .int .i64 e.entry, .int .i64 e.target, .int .i64 e.date, .str e.zb, .str e.name, .str e.value, .bool e.first]) 0)), .arr 1 9 (zd 9 [.int .u8 e.kind, .int .i64 e.id, .int .i64 e.entry, .int .i64 e.target, .int .i64 e.date, .str e.zb, .str e.name, .str e.value, .bool e.first])]))))) (.side (0 = 0 ∧ 0 ≤ 0 ∧ (0 + l.length) * 96 ≤ 140737488355328) (.side (0 = 0 ∧ 0 + l.length ≤ 0 + l.length ∧ (0 + l.length + 1) * 96 ≤ 140737488355328) (.leaf (.ret [.agg [.osl 4 9 0 (0 + l.length + 1)], .int .i64 0] [.box [.sl l.length 9 (evG l)], .box [.int .u8 e.kind, .int .i64 e.id, .int .i64 e.entry, .int .i64 e.target, .int .i64 e.date, .str e.zb, .str e.name, .str e.value, .bool e.first], .box [.osl 4 9 0 (0 + l.length + 1)], .arr 1 9 (zd 9 [.int .u8 e.kind, .int .i64 e.id, .int .i64 e.entry, .int .i64 e.target, .int .i64 e.date, .str e.zb, .str e.name, .str e.value, .bool e.first]), .arr (0 + l.length + 1) 9 (appG (0 + l.length) (appG 0 (zd 9 []) (evG l)) (zg (zd 9 [.int .u8 e.kind, .int .i64 e.id, .int .i64 e.entry, .int .i64 e.target, .int .i64 e.date, .str e.zb, .str e.name, .str e.value, .bool e.first]) 0))]))))))) (by kernel_rfl) ?_
 simp only [Tree.holds, ze]
 obtain ⟨hl, he⟩ := hp
 have fin : ∀ (z : Int) (h : Heap), appR l e = ([], z) → RetR W0 0 Q [.agg [.nils], .int .i64 z] h := fun z h hr => by
  simp only [hr] at hq
  exact RetR.out0 hq (fun _ => by simp [resV, new2, new1, new0, zP]) (by simp [resV, exp2, exp1, exp0, ren0, eqA2, eqL1, evS])
 refine ⟨l, ⟨by simp [za], hl⟩, ⟨_, rfl⟩, ?_⟩
 rintro _ rfl
 have hl1 : l.length < 2 ^ 40 := hl.1
 refine ⟨fun h => fin _ _ ?_, fun h => ?_⟩
 ·have h : qO l = false := by simpa using h
  unfold appR; rw [if_pos h]
 have hv : qO l = true := by simpa using h
 refine ⟨(l, e), ⟨by simp [Ev.av, za], hl1, he⟩, ⟨_, rfl⟩, ?_⟩
 rintro _ rfl
 refine ⟨fun h => fin _ _ ?_, fun h => ?_⟩
 ·have h : accR l e ≠ 0 := by simpa using h
  unfold appR; rw [if_neg (by rw [hv]; decide), if_pos h]
 have h : accR l e = 0 := by simpa using h
 have hr : appR l e = (l ++ [e], 0) := by unfold appR; rw [if_neg (by rw [hv]; decide), if_neg (by simpa using h)]
 simp only [hr] at hq
 have eg : eqG (0 + l.length + 1) 9 (appG (0 + l.length) (appG 0 (zd 9 []) (evG l)) (zg (zd 9 [.int .u8 e.kind, .int .i64 e.id, .int .i64 e.entry, .int .i64 e.target, .int .i64 e.date, .str e.zb, .str e.name, .str e.value, .bool e.first]) 0)) (evG (l ++ [e])) := by
  have := jN (x := e) (l := l) (g := appG 0 (zd 9 []) (evG l)) (by have := Qm l.length 9 (zd 9 []) (evG l); simpa using this)
  simpa using this
 have good : ∀ (h : Heap) (i : Nat), i < h.length → h.getD i .dead = .arr (0 + l.length + 1) 9 (appG (0 + l.length) (appG 0 (zd 9 []) (evG l)) (zg (zd 9 [.int .u8 e.kind, .int .i64 e.id, .int .i64 e.entry, .int .i64 e.target, .int .i64 e.date, .str e.zb, .str e.name, .str e.value, .bool e.first]) 0)) → RetR W0 0 Q [.agg [.osl i 9 0 (0 + l.length + 1)], .int .i64 0] h := by
  intro h i hi hb
  have hb' : h[i]? = some (.arr (0 + l.length + 1) 9 (appG (0 + l.length) (appG 0 (zd 9 []) (evG l)) (zg (zd 9 [.int .u8 e.kind, .int .i64 e.id, .int .i64 e.entry, .int .i64 e.target, .int .i64 e.date, .str e.zb, .str e.name, .str e.value, .bool e.first]) 0))) := by
   rw [List.getElem?_eq_getElem hi]; simp only [List.getD, List.getElem?_eq_getElem hi, Option.getD_some] at hb; rw [hb]
  have ex : exp0 h [] (.osl i 9 0 (0 + l.length + 1)) = .sl (0 + l.length + 1) 9 (zg (appG (0 + l.length) (appG 0 (zd 9 []) (evG l)) (zg (zd 9 [.int .u8 e.kind, .int .i64 e.id, .int .i64 e.entry, .int .i64 e.target, .int .i64 e.date, .str e.zb, .str e.name, .str e.value, .bool e.first]) 0)) 0) := by
   simp [exp0, zw, frz1, jD, hb']
  refine RetR.out0 hq (fun _ => ?_) ?_
  ·simp only [resV, new2, List.mem_cons, List.not_mem_nil, or_false, forall_eq_or_imp, forall_eq, new1, new0]
   refine ⟨fun _ => ?_, rfl⟩
   rw [ex]
   intro j o hj ho
   simp only [zg, Nat.zero_add]
   have := eg j o hj ho
   simp only [zg, Nat.zero_add] at this
   rw [this]; exact Wn _ _ _ ho
  ·simp only [resV, exp2, List.map_cons, List.map_nil, exp1, ex]
   refine ⟨⟨⟨by simp, rfl, fun j o hj ho => ?_⟩, trivial⟩, ⟨rfl, rfl⟩, trivial⟩
   have := eg j o hj ho
   simp only [zg, Nat.zero_add] at this ⊢
   exact this
 refine jo ?_ ?_
 ·refine jo ?_ ?_ <;> exact ⟨⟨trivial, Nat.le_refl _, by omega⟩, fun _ => ⟨⟨trivial, Nat.le_refl _, by omega⟩, fun _ => good _ _ (by simp) rfl⟩⟩
 ·exact ⟨⟨trivial, Nat.le_refl _, by omega⟩, fun _ => ⟨⟨trivial, Nat.le_refl _, by omega⟩, fun _ => good _ _ (by simp) rfl⟩⟩
def Xe : Ctr := ctrP true (fun p : List Ev × List Ev => [evS p.1, evS p.2]) (fun p => p.1.length < 2 ^ 40) (fun p r => (r = true ↔ p.1 = p.2)) (fun _ (r : Bool) => (.bool r, []))
def SSm (a b : List Ev) (i : Nat) : KV := [(0, evS a), (1, evS b), (5, .int .i64 i)]
theorem Km : zf Try.prog 32 Xe := by
 refine zn (fn := Try.f32) (c := Try.f32.body.getD .skip) rfl rfl rfl fun p hp O w0 Q hq => ?_
 obtain ⟨a, b⟩ := p
 refine zc.run hmix z2 [0, 1, 5] 400 (T := .ite (!decide ((↑a.length : Int) = b.length)) (.leaf (.ret [.bool false] [])) (.leaf (.loop (Prod.fst (lps K32 0)) (Prod.snd (lps K32 0)) [(0, .sl a.length 9 (evG a)), (1, .sl b.length 9 (evG b)), (5, .int .i64 0)] []))) (by kernel_rfl) ?_
 simp only [Tree.holds, ze]
 refine ⟨fun h => RetR.scal (hq false ?_) rfl rfl, fun h => ?_⟩
 ·refine ⟨fun g => (by cases g), fun g => ?_⟩
  rw [show a = b from g] at h; simp at h
 have hlen : a.length = b.length := by
  have : (a.length : Int) = b.length := by simpa using h
  omega
 have ha : a.length < 2 ^ 40 := hp
 refine zc.loop (ι := {i : Nat // i ≤ a.length ∧ ∀ j, j < i → a.getD j Ev.nil = b.getD j Ev.nil}) (fun i => SSm a b i.1) (fun _ => []) (fun i => a.length - i.1) ⟨0, Nat.zero_le _, fun j hj => by omega⟩ 0 ?_ ?_ (by kernel_rfl)
 ·exact ⟨by simp [SSm, evS, za], by simp, by kernel_rfl, Nat.zero_le _⟩
 ·rintro ⟨i, hil, hbe⟩
  refine zc.run hmix z2 [0, 1, 5] 400 (T := .ite (decide ((↑i : Int) < a.length)) (.side ((0 : Int) ≤ i ∧ (↑i : Int) < a.length) (.side ((0 : Int) ≤ i ∧ (↑i : Int) < b.length) (.ite (!(decide (Ev.kind (List.getD a (Int.toNat (↑i : Int)) Ev.nil) = Ev.kind (List.getD b (Int.toNat (↑i : Int)) Ev.nil)) && (decide (Ev.id (List.getD a (Int.toNat (↑i : Int)) Ev.nil) = Ev.id (List.getD b (Int.toNat (↑i : Int)) Ev.nil)) && (decide (Ev.entry (List.getD a (Int.toNat (↑i : Int)) Ev.nil) = Ev.entry (List.getD b (Int.toNat (↑i : Int)) Ev.nil)) && (decide (Ev.target (List.getD a (Int.toNat (↑i : Int)) Ev.nil) = Ev.target (List.getD b (Int.toNat (↑i : Int)) Ev.nil)) && (decide (Ev.date (List.getD a (Int.toNat (↑i : Int)) Ev.nil) = Ev.date (List.getD b (Int.toNat (↑i : Int)) Ev.nil)) && (decide (Ev.zb (List.getD a (Int.toNat (↑i : Int)) Ev.nil) = Ev.zb (List.getD b (Int.toNat (↑i : Int)) Ev.nil)) && (decide (Ev.name (List.getD a (Int.toNat (↑i : Int)) Ev.nil) = Ev.name (List.getD b (Int.toNat (↑i : Int)) Ev.nil)) && (decide (Ev.value (List.getD a (Int.toNat (↑i : Int)) Ev.nil) = Ev.value (List.getD b (Int.toNat (↑i : Int)) Ev.nil)) && (Ev.first (List.getD a (Int.toNat (↑i : Int)) Ev.nil) == Ev.first (List.getD b (Int.toNat (↑i : Int)) Ev.nil) && true)))))))))) (.leaf (.ret [.bool false] [])) (.side (inR .i64 ((↑i : Int) + (1 : Int))) (.leaf (.back 0 [(0, .sl a.length 9 (evG a)), (1, .sl b.length 9 (evG b)), (5, .int .i64 ((↑i : Int) + (1 : Int)))] [])))))) (.leaf (.ret [.bool true] []))) (by kernel_rfl) ?_
  simp only [Tree.holds, ze, Int.toNat_natCast, inR, lo, hi]
  simp only [Ul]
  refine ⟨fun h => ?_, fun h => ?_⟩
  ·have hlt : i < a.length := by have := of_decide_eq_true h; omega
   refine ⟨by omega, fun _ => ⟨by omega, fun _ => ⟨fun h => ?_, fun h => ⟨by omega, fun _ => ?_⟩⟩⟩⟩
   ·refine RetR.scal (hq false ⟨fun g => (by cases g), fun g => ?_⟩) rfl rfl
    rw [show a = b from g] at h; simp at h
   ·rw [if_pos trivial]
    have h : a.getD i Ev.nil = b.getD i Ev.nil := of_decide_eq_true (by simpa only [Bool.not_eq_false'] using h)
    refine ⟨⟨i + 1, hlt, fun j hj => ?_⟩, by show a.length - (i + 1) < a.length - i; omega, ⟨by simp [SSm, evS, za], by simp, by kernel_rfl, Nat.zero_le _⟩⟩
    by_cases e : j = i
    ·rw [e]; exact h
    ·exact hbe j (by omega)
  ·have hge : i = a.length := by have := of_decide_eq_false h; omega
   exact RetR.scal (hq true ⟨fun _ => YH hlen fun j hj => hbe j (by rw [hge]; exact hj), fun _ => rfl⟩) rfl rfl
noncomputable def GSt : Nat → Option Ctr := fun f => if f = 32 then some (Xe) else none
theorem YT : ∀ g c, GSt g = some c → zf Try.prog g c := okIf Km (z3)
noncomputable def Ww : Ctr := inlC Try.prog GSt 100 Try.f14
theorem WZ : zf Try.prog 14 Ww := vu hmix YT rfl rfl
end Go.Proofs.Try
end

/- The store's state says what the log says. -/
section
namespace Go.Nov
open Go.Sx
def fixS (t : Int) (a y : Ev) : Ev := if y.target = t ∧ y.kind = 3 then { a with value := y.value } else if y.target = t ∧ y.kind = 4 then { a with first := y.first } else a
def kh (l : List Ev) (x : Ev) : Ev := l.foldl (fixS x.id) x
def latF (l : List Ev) (i : Nat) : Ev := if (l.getD i Ev.nil).fact && !qv l ((i : Int) + 1) then kh l (l.getD i Ev.nil) else Ev.nil
structure Inv (l : List Ev) (s : SS) : Prop where
 evs : s.evs = l
 ok : s.ok
 lat : ∀ i, i < l.length → s.lat.getD i Ev.nil = latF l i
 ids : ∀ i, i < l.length → (l.getD i Ev.nil).id = (i : Int) + 1
 val : ∀ i, i < l.length → (l.getD i Ev.nil).valid = true
 side : ∀ i, i < l.length → ((s.lat.getD i Ev.nil).kind = 1 → (s.lat.getD i Ev.nil).first = false) ∧ ((s.lat.getD i Ev.nil).kind = 2 → (s.lat.getD i Ev.nil).value = [])
theorem X6 (t : Int) (a y : Ev) : (fixS t a y).key = a.key ∧ (fixS t a y).kind = a.kind := by
 unfold fixS
 split
 ·exact ⟨rfl, rfl⟩
 ·split <;> exact ⟨rfl, rfl⟩
theorem xN (t : Int) : ∀ (l : List Ev) (a : Ev), (l.foldl (fixS t) a).key = a.key ∧ (l.foldl (fixS t) a).kind = a.kind
 | [], a => ⟨rfl, rfl⟩
 | y :: l, a => by
  simp only [List.foldl_cons]
  rw [(xN t l _).1, (xN t l _).2]
  exact X6 t a y
theorem jT (l : List Ev) (x : Ev) : (kh l x).key = x.key ∧ (kh l x).kind = x.kind := xN _ l x
theorem ju {e : Ev} : e.fact = true ↔ e.kind = 1 ∨ e.kind = 2 := by simp [Ev.fact]
theorem j6 {e : Ev} (hv : e.valid = true) : e.fact = true ↔ ¬ 0 < e.target := by
 constructor
 ·intro hf
  unfold Ev.valid at hv
  rcases ju.1 hf with h | h
  ·rw [if_pos h] at hv
   simp only [Bool.and_eq_true, decide_eq_true_eq] at hv
   omega
  ·rw [if_neg (by omega), if_pos h] at hv
   simp only [Bool.and_eq_true, decide_eq_true_eq] at hv
   omega
 ·intro ht
  cases hf : e.fact with
  | true => rfl
  | false => have := u0 hv hf; omega
theorem uY {e : Ev} (hv : e.valid = true) : e.target < e.id := by
 unfold Ev.valid at hv
 simp only [Bool.and_eq_true, inB, decide_eq_true_eq] at hv
 obtain ⟨⟨⟨h1, h2⟩, h3⟩, h4⟩ := hv
 split at h4
 ·simp only [Bool.and_eq_true, decide_eq_true_eq] at h4; omega
 ·split at h4
  ·simp only [Bool.and_eq_true, decide_eq_true_eq] at h4; omega
  ·simp only [Bool.and_eq_true, decide_eq_true_eq] at h4; omega
theorem Zg {l : List Ev} {i : Nat} : (latF l i).kind = 0 ↔ ((l.getD i Ev.nil).fact = false ∨ qv l ((i : Int) + 1) = true) := by
 unfold latF
 cases hf : (l.getD i Ev.nil).fact with
 | false => simp
 | true =>
  cases hc : qv l ((i : Int) + 1) with
  | true => simp
  | false =>
   simp only [Bool.not_false, Bool.and_true, if_true, (jT _ _).2]
   have := ju.1 hf
   constructor
   ·intro g; omega
   ·rintro (g | g) <;> cases g
theorem ZL {l : List Ev} {i : Nat} (h : (latF l i).kind ≠ 0) : latF l i = kh l (l.getD i Ev.nil) ∧ (l.getD i Ev.nil).fact = true ∧ qv l ((i : Int) + 1) = false := by
 have h' := fun g => h (Zg.2 g)
 have h1 : (l.getD i Ev.nil).fact = true := by
  cases hf : (l.getD i Ev.nil).fact with
  | true => rfl
  | false => exact absurd (.inl hf) h'
 have h2 : qv l ((i : Int) + 1) = false := by
  cases hf : qv l ((i : Int) + 1) with
  | false => rfl
  | true => exact absurd (.inr hf) h'
 refine ⟨?_, h1, h2⟩
 unfold latF
 rw [h1, h2]; rfl
theorem vB {e : Ev} (hv : e.valid = true) (hf : e.fact = false) : e.kind = 3 ∨ e.kind = 4 ∨ e.kind = 5 := by
 have hf : ¬ e.kind = 1 ∧ ¬ e.kind = 2 := by simpa [Ev.fact] using hf
 unfold Ev.valid at hv
 rw [if_neg hf.1, if_neg hf.2] at hv
 by_cases h3 : e.kind = 3
 ·exact .inl h3
 ·by_cases h4 : e.kind = 4
  ·exact .inr (.inl h4)
  ·rw [if_neg h3, if_neg h4] at hv
   simp only [Bool.and_eq_true, decide_eq_true_eq] at hv
   exact .inr (.inr hv.2.2.1.1)
theorem KO {l : List Ev} {s : SS} (I : Inv l s) (e : Ev) : s.errA e = accR l e := by
 have hlen := I.ok.len
 rw [I.evs] at hlen
 unfold SS.errA accR
 rw [I.evs]
 by_cases h1 : e.valid = false ∨ e.id ≠ l.length + 1
 ·rw [if_pos h1, if_pos h1]
 rw [if_neg h1, if_neg h1]
 by_cases h2 : 0 < l.length ∧ e.entry < (l.getD (l.length - 1) Ev.nil).entry
 ·rw [if_pos h2, if_pos h2]
 rw [if_neg h2, if_neg h2]
 by_cases h3 : 1000 ≤ l.length
 ·rw [if_pos h3, if_pos h3]
 rw [if_neg h3, if_neg h3]
 have hv : e.valid = true := by
  cases hv : e.valid
  ·exact absurd (.inl hv) h1
  ·rfl
 by_cases ht : 0 < e.target
 ·have hf : e.fact = false := by
   cases hf : e.fact with
   | false => rfl
   | true => exact absurd ht ((j6 hv).1 hf)
  rw [if_pos ht, if_pos hf]
  unfold SS.errC
  by_cases hlt : (l.length : Int) < e.target
  ·rw [if_pos (.inl (by rw [hlen]; exact hlt)), if_pos (.inl hlt)]
  ·have hi : e.target.toNat - 1 < l.length := by omega
   have hx : s.fact e = latF l (e.target.toNat - 1) := I.lat _ hi
   have hc : ((e.target.toNat - 1 : Nat) : Int) + 1 = e.target := by omega
   have hk := Zg (l := l) (i := e.target.toNat - 1)
   rw [hc] at hk
   by_cases h6 : (s.fact e).kind = 0
   ·rw [if_pos (.inr h6)]
    rw [hx] at h6
    rcases hk.1 h6 with g | g
    ·rw [if_pos (.inr (.inl g))]
    ·rw [if_pos (.inr (.inr g))]
   ·have h6' := h6
    rw [hx] at h6'
    obtain ⟨q1, q2, q3⟩ := ZL h6'
    rw [hc] at q3
    have nA : ¬ ((s.lat.length : Int) < e.target ∨ (s.fact e).kind = 0) := by
     rintro (g | g)
     ·exact hlt (by rw [← hlen]; exact g)
     ·exact h6 g
    have nB : ¬ ((l.length : Int) < e.target ∨ (l.getD (e.target.toNat - 1) Ev.nil).fact = false ∨ qv l e.target = true) := by
     rintro (g | g | g)
     ·exact hlt g
     ·rw [q2] at g; exact absurd g (by decide)
     ·rw [q3] at g; exact absurd g (by decide)
    rw [if_neg nA, if_neg nB]
    have hkk : (s.fact e).kind = (l.getD (e.target.toNat - 1) Ev.nil).kind := by rw [hx, q1, (jT _ _).2]
    rw [hkk]
    have hfk := ju.1 q2
    generalize (l.getD (e.target.toNat - 1) Ev.nil).kind = k at hfk
    clear hkk q1 q2 q3 hk hx h6 h6' hc nA nB
    rcases vB hv hf with g | g | g <;> rcases hfk with hfk | hfk <;> subst hfk <;> rw [g] <;> decide
 ·have hf : e.fact = true := (j6 hv).2 ht
  have nf : ¬ e.fact = false := by rw [hf]; decide
  rw [if_neg ht, if_neg nf]
  have : zo s.lat e.key = jW l e l.length := by
   rw [Bool.eq_iff_iff, xP]
   unfold jW
   rw [List.any_eq_true]
   constructor
   ·rintro ⟨j, hj, h1, h2⟩
    rw [hlen] at hj
    rw [I.lat j hj] at h1 h2
    obtain ⟨q1, q2, q3⟩ := ZL h1
    rw [q1, (jT _ _).1] at h2
    refine ⟨j, List.mem_range.2 hj, ?_⟩
    rw [q3]
    simp only [Ev.key, List.cons.injEq, Sum.inl.injEq, Sum.inr.injEq, and_true] at h2
    simp [kQ, h2.1, h2.2.1, h2.2.2.1, h2.2.2.2, -List.getD_eq_getElem?_getD]
   ·rintro ⟨j, hj, h1⟩
    have hj := List.mem_range.1 hj
    simp only [kQ, Bool.and_eq_true, decide_eq_true_eq, Bool.not_eq_true'] at h1
    obtain ⟨⟨⟨⟨g1, g2⟩, g3⟩, g4⟩, g5⟩ := h1
    have hfj : (l.getD j Ev.nil).fact = true := ju.2 (by rw [g1]; exact ju.1 hf)
    have e1 : latF l j = kh l (l.getD j Ev.nil) := by unfold latF; rw [hfj, g5]; rfl
    refine ⟨j, by omega, ?_⟩
    rw [I.lat j hj, e1, (jT _ _).1, (jT _ _).2]
    refine ⟨?_, ?_⟩
    ·rcases ju.1 hfj with h | h <;> omega
    ·simp only [Ev.key, g1, g2, g3, g4]
  rw [this]
theorem xa {l : List Ev} {e : Ev} {t : Int} : qv (l ++ [e]) t = (qv l t || (decide (e.kind = 5) && decide (e.target = t))) := by
 simp [qv]
theorem vW {l : List Ev} {e x : Ev} : kh (l ++ [e]) x = fixS x.id (kh l x) e := by
 simp [kh, List.foldl_append]
theorem wF {l : List Ev} {e : Ev} {i : Nat} (h : i < l.length) : (l ++ [e]).getD i Ev.nil = l.getD i Ev.nil := by
 rw [qZ (by omega), if_pos h]
theorem ka {l : List Ev} {e : Ev} : (l ++ [e]).getD l.length Ev.nil = e := by
 rw [qZ (by omega), if_neg (by omega)]
theorem u6 {t : Int} : ∀ {l : List Ev} {a : Ev}, (∀ y ∈ l, y.target ≠ t) → l.foldl (fixS t) a = a
 | [], a, _ => rfl
 | y :: l, a, h => by
  simp only [List.foldl_cons]
  have : fixS t a y = a := by
   unfold fixS
   rw [if_neg (fun g => h y (by simp) g.1), if_neg (fun g => h y (by simp) g.1)]
  rw [this]
  exact u6 fun z hz => h z (by simp [hz])
theorem Wd {l : List Ev} {s : SS} (I : Inv l s) : ∀ y ∈ l, y.target < (l.length : Int) := by
 intro y hy
 obtain ⟨j, hj, rfl⟩ := List.mem_iff_getElem.1 hy
 have h1 := I.ids j hj
 have h2 := uY (I.val j hj)
 rw [qE hj] at h1 h2
 omega
theorem Zk {t : Int} {a y : Ev} (h : y.target ≠ t) : fixS t a y = a := by
 unfold fixS
 rw [if_neg (fun g => h g.1), if_neg (fun g => h g.1)]
theorem v3 {e : Ev} (hv : e.valid = true) : (e.kind = 1 ∨ e.kind = 3 → e.first = false) ∧ (e.kind = 2 ∨ e.kind = 4 → e.value = []) := by
 unfold Ev.valid at hv
 simp only [Bool.and_eq_true] at hv
 have hv := hv.2
 constructor
 ·rintro (g | g)
  ·rw [if_pos g] at hv
   simp only [Bool.and_eq_true, Bool.not_eq_true'] at hv
   exact hv.2
  ·rw [if_neg (by omega), if_neg (by omega)] at hv
   simp only [Bool.and_eq_true] at hv
   have hv := hv.2
   rw [if_pos g] at hv
   simp only [Bool.and_eq_true, Bool.not_eq_true'] at hv
   exact hv.2
 ·rintro (g | g)
  ·rw [if_neg (by omega), if_pos g] at hv
   simp only [Bool.and_eq_true, decide_eq_true_eq] at hv
   exact hv.2
  ·rw [if_neg (by omega), if_neg (by omega)] at hv
   simp only [Bool.and_eq_true] at hv
   have hv := hv.2
   rw [if_neg (by omega), if_pos g] at hv
   exact of_decide_eq_true hv
theorem XZ {l : List Ev} {s : SS} (I : Inv l s) {e : Ev} (h : s.errA e = 0) : Inv (l ++ [e]) (s.add e) := by
 have hlen := I.ok.len
 rw [I.evs] at hlen
 have h0 := h
 unfold SS.errA at h
 rw [I.evs] at h
 split at h
 ·cases h
 rename_i h1
 split at h
 ·cases h
 split at h
 ·cases h
 have hv : e.valid = true := by
  cases hv : e.valid
  ·exact absurd (.inl hv) h1
  ·rfl
 have hid : e.id = l.length + 1 := Decidable.byContradiction fun g => h1 (.inr g)
 have hevs : (s.add e).evs = l ++ [e] := by rw [(yk h0).1, I.evs]
 have htl := uY hv
 refine ⟨hevs, Jk I.ok e, fun i hi => ?_, fun i hi => ?_, fun i hi => ?_, fun i hi => ?_⟩
 ·simp only [List.length_append, List.length_cons, List.length_nil] at hi
  unfold SS.add
  rw [if_neg (by simpa using h0)]
  split at h
  ·rename_i ht
   rw [if_pos ht]
   have hf : e.fact = false := by
    cases hf : e.fact with
    | false => rfl
    | true => exact absurd ht ((j6 hv).1 hf)
   have hcl := (yq I.ok ht).2.1
   simp only
   rw [qZ (by omega), hcl, hlen]
   by_cases hil : i < l.length
   ·rw [if_pos hil]
    unfold SS.cor
    rw [if_pos h]
    simp only
    unfold SS.errC at h
    split at h
    ·cases h
    rename_i h6
    rw [not_or] at h6
    have hit : e.target.toNat - 1 < l.length := by omega
    rw [qH (by omega)]
    have hx : s.fact e = latF l (e.target.toNat - 1) := I.lat _ hit
    have hk := h6.2
    rw [hx] at hk
    obtain ⟨q1, q2, q3⟩ := ZL hk
    by_cases hie : i = e.target.toNat - 1
    ·subst hie
     rw [if_pos rfl]
     have hc : ((e.target.toNat - 1 : Nat) : Int) + 1 = e.target := by omega
     rw [hc] at q3
     unfold latF SS.fixed
     rw [wF hit, q2, hc, xa, q3, vW, hx, q1]
     have hidx := I.ids _ hit
     by_cases h5 : e.kind = 5
     ·simp [h5]
     ·have : (e.kind = 3) ∨ (e.kind = 4) := by
       rcases vB hv hf with g | g | g
       ·exact .inl g
       ·exact .inr g
       ·exact absurd g h5
      rw [if_neg h5]
      simp only [h5, decide_false, Bool.false_and, Bool.or_false, Bool.not_false, Bool.and_true, if_true]
      rw [if_neg h5] at h
      have hkk : (s.fact e).kind = (l.getD (e.target.toNat - 1) Ev.nil).kind := by rw [hx, q1, (jT _ _).2]
      have hsd := I.side _ hit
      rw [show s.lat.getD (e.target.toNat - 1) Ev.nil = s.fact e from rfl, hkk] at hsd
      rw [hkk] at h
      rw [hx, q1] at hsd
      have hvs := v3 hv
      rw [hidx, hc]
      have hfk := ju.1 q2
      generalize kh l (l.getD (e.target.toNat - 1) Ev.nil) = x at hsd ⊢
      generalize (l.getD (e.target.toNat - 1) Ev.nil).kind = k at hsd h hfk
      unfold fixS
      rcases this with g | g
      ·rw [if_pos ⟨rfl, g⟩]
       have hk1 : k = 1 := by
        rcases hfk with rfl | rfl
        ·rfl
        ·rw [g] at h; exact absurd h (by decide)
       rw [hvs.1 (.inr g), ← hsd.1 hk1]
      ·have n3 : ¬ (e.target = e.target ∧ e.kind = 3) := fun q => by omega
       rw [if_neg n3, if_pos ⟨rfl, g⟩]
       have hk2 : k = 2 := by
        rcases hfk with rfl | rfl
        ·rw [g] at h; exact absurd h (by decide)
        ·rfl
       rw [hvs.2 (.inr g), ← hsd.2 hk2]
    ·rw [if_neg hie, I.lat i hil]
     unfold latF
     rw [wF hil, xa, vW]
     have hne : e.target ≠ (i : Int) + 1 := by omega
     have hidx := I.ids i hil
     simp only [hne, decide_false, Bool.and_false, Bool.or_false]
     rw [hidx, Zk hne]
   ·obtain rfl : i = l.length := by omega
    rw [if_neg hil]
    unfold latF
    rw [ka, hf]; rfl
  ·rename_i ht
   rw [if_neg ht]
   have hf : e.fact = true := (j6 hv).2 ht
   simp only
   rw [qZ (by omega), hlen]
   by_cases hil : i < l.length
   ·rw [if_pos hil, I.lat i hil]
    unfold latF
    rw [wF hil, xa, vW]
    have hne : e.target ≠ (i : Int) + 1 := by omega
    have hidx := I.ids i hil
    simp only [hne, decide_false, Bool.and_false, Bool.or_false]
    rw [hidx, Zk hne]
   ·obtain rfl : i = l.length := by omega
    rw [if_neg hil]
    unfold latF
    have htg := Wd I
    have hc : qv l ((l.length : Int) + 1) = false := by
     unfold qv
     rw [List.any_eq_false]
     intro y hy
     have := htg y hy
     simp only [Bool.and_eq_true, decide_eq_true_eq, not_and]
     intro _; omega
    rw [ka, hf, xa, hc]
    have : e.target ≠ (l.length : Int) + 1 := by omega
    simp only [this, decide_false, Bool.and_false, Bool.or_false, Bool.not_false, Bool.and_true, if_true]
    rw [vW]
    unfold kh
    rw [u6 (fun y hy => by have := htg y hy; omega)]
    unfold fixS
    rw [hid, if_neg (fun g => this g.1), if_neg (fun g => this g.1)]
 ·simp only [List.length_append, List.length_cons, List.length_nil] at hi
  by_cases hil : i < l.length
  ·rw [wF hil]; exact I.ids i hil
  ·obtain rfl : i = l.length := by omega
   rw [ka, hid]
 ·simp only [List.length_append, List.length_cons, List.length_nil] at hi
  by_cases hil : i < l.length
  ·rw [wF hil]; exact I.val i hil
  ·obtain rfl : i = l.length := by omega
   rw [ka, hv]
 ·simp only [List.length_append, List.length_cons, List.length_nil] at hi
  have nil : (Ev.nil.kind = 1 → Ev.nil.first = false) ∧ (Ev.nil.kind = 2 → Ev.nil.value = []) := ⟨fun _ => rfl, fun _ => rfl⟩
  unfold SS.add
  rw [if_neg (by simpa using h0)]
  split at h
  ·rename_i ht
   rw [if_pos ht]
   have hcl := (yq I.ok ht).2.1
   simp only
   rw [qZ (by omega), hcl, hlen]
   by_cases hil : i < l.length
   ·rw [if_pos hil]
    unfold SS.cor
    rw [if_pos h]
    simp only
    unfold SS.errC at h
    split at h
    ·cases h
    rename_i h6
    rw [not_or] at h6
    have hit : e.target.toNat - 1 < l.length := by omega
    rw [qH (by omega)]
    by_cases hie : i = e.target.toNat - 1
    ·rw [if_pos hie]
     unfold SS.fixed
     by_cases h5 : e.kind = 5
     ·rw [if_pos h5]; exact nil
     ·rw [if_neg h5] at h ⊢
      have hvs := v3 hv
      have hf : e.fact = false := by
       cases hf : e.fact with
       | false => rfl
       | true => exact absurd ht ((j6 hv).1 hf)
      simp only
      rcases vB hv hf with g | g | g
      ·refine ⟨fun _ => hvs.1 (.inr g), fun q => ?_⟩
       rw [g, q] at h; exact absurd h (by decide)
      ·refine ⟨fun q => ?_, fun _ => hvs.2 (.inr g)⟩
       rw [g, q] at h; exact absurd h (by decide)
      ·exact absurd g h5
    ·rw [if_neg hie]; exact I.side i hil
   ·rw [if_neg hil]; exact nil
  ·rename_i ht
   rw [if_neg ht]
   simp only
   rw [qZ (by omega), hlen]
   by_cases hil : i < l.length
   ·rw [if_pos hil]; exact I.side i hil
   ·rw [if_neg hil]
    have hvs := v3 hv
    exact ⟨fun g => hvs.1 (.inl g), fun g => hvs.2 (.inl g)⟩
theorem inv0 : Inv [] ⟨[], []⟩ := ⟨rfl, Jv, fun i h => by simp at h, fun i h => by simp at h, fun i h => by simp at h, fun i h => by simp at h⟩
theorem QX : ∀ {r l : List Ev} {s : SS}, Inv l s → (match s.play r with
  | some t => Inv (l ++ r) t ∧ ∀ j, j < r.length → accR (l ++ r.take j) (r.getD j Ev.nil) = 0
  | none => ∃ j, j < r.length ∧ accR (l ++ r.take j) (r.getD j Ev.nil) ≠ 0)
 | [], l, s, I => by simp only [SS.play]; exact ⟨by simpa using I, fun j h => by simp at h⟩
 | e :: r, l, s, I => by
  simp only [SS.play]
  have ha := KO I e
  by_cases g : s.errA e = 0
  ·rw [if_pos g]
   have h := QX (r := r) (XZ I g)
   have e1 : ∀ j, l ++ [e] ++ r.take j = l ++ (e :: r).take (j + 1) := fun j => by simp
   cases hp : (s.add e).play r with
   | none =>
    rw [hp] at h
    obtain ⟨j, h1, h2⟩ := h
    exact ⟨j + 1, by simpa using h1, by rw [← e1]; simpa using h2⟩
   | some t =>
    rw [hp] at h
    refine ⟨by simpa using h.1, fun j hj => ?_⟩
    cases j with
    | zero => simpa using ha.symm.trans g
    | succ j =>
     have := h.2 j (by simpa using hj)
     rw [e1] at this
     simpa using this
  ·rw [if_neg g]
   exact ⟨0, by simp, by simpa using fun q => g (ha.trans q)⟩
theorem yz {l : List Ev} : (SS.play ⟨[], []⟩ l).isSome = qO l ∧ ∀ t, SS.play ⟨[], []⟩ l = some t → Inv l t := by
 have h := QX (r := l) inv0
 cases hp : SS.play ⟨[], []⟩ l with
 | none =>
  rw [hp] at h
  obtain ⟨j, h1, h2⟩ := h
  refine ⟨?_, fun t ht => by cases ht⟩
  symm
  unfold qO
  rw [Option.isSome_none, List.all_eq_false]
  exact ⟨j, List.mem_range.2 h1, by simpa using h2⟩
 | some t =>
  rw [hp] at h
  refine ⟨?_, fun t' ht => by cases ht; simpa using h.1⟩
  symm
  unfold qO
  rw [Option.isSome_some, List.all_eq_true]
  exact fun j hj => by simpa using h.2 j (List.mem_range.1 hj)
theorem YF (l : List Ev) (e : Ev) : appS l e = appR l e := by
 unfold appS appR
 obtain ⟨h1, h2⟩ := yz (l := l)
 cases hp : SS.play ⟨[], []⟩ l with
 | none =>
  rw [hp] at h1
  rw [if_pos (show qO l = false from h1.symm)]
 | some t =>
  rw [hp] at h1
  have I := h2 t hp
  rw [if_neg (show ¬ qO l = false by rw [← h1]; simp)]
  simp only
  rw [KO I e, I.evs]
end Go.Nov
end

/- The law of StoreAppends holds of the code. -/
section
set_option maxRecDepth 100000
open Go Go.Sx Go.Proofs Go.Nov
namespace Go.Proofs.Try
attribute [local simp] eqKV eqA eqA0 eqH eqB eqL eqL0
noncomputable def K3 : List Go.Sx.Item := [.code (Try.f3.body.getD .skip)]
theorem V8 (n sz : Nat) (g g' : Nat → Nat → AV) : eqG n sz (appG 0 g g') g' := by have := Qm n sz g g'; simpa using this
def SLa (i : Nat) : KV := [(2, .ptr 0 0), (5, .ptr 3 0), (6, .ptr 5 0), (10, .bool true), (11, .int .i64 i), (65, .undef), (66, .undef), (67, .undef)]
def HLa (l : List Ev) (n : Nat) (g : Nat → Nat → AV) : Heap := [.box [evS l], .dead, .arr l.length 9 (evG l), .box [.osl 2 9 0 l.length], .arr n 9 g, .box [.osl 4 9 0 n]]
def Yy : Ctr := ctrP true (fun p : List Ev × Ev => [.agg [evS p.1], p.2.av]) (fun p => WS p.1 ∧ Zb p.2) (fun _ r => r = true) (fun _ (r : Bool) => (.bool r, []))
noncomputable def GSa : Nat → Option Ctr := fun f => if f = 10 then some (WK) else if f = 11 then some (Kl) else if f = 12 then some (Xz) else if f = 13 then some (W0) else if f = 14 then some (Ww) else if f = 15 then some (Qb) else if f = 16 then some (ZV) else none
theorem KM : ∀ g c, GSa g = some c → zf Try.prog g c := okIf VM (okIf WL (okIf Yb (okIf XJ (okIf WZ (okIf VK (okIf uN (z3)))))))
theorem Xf : zf Try.prog 3 Yy := by
 refine zn (fn := Try.f3) (c := Try.f3.body.getD .skip) rfl rfl rfl fun p hp O w0 Q hq => ?_
 obtain ⟨l, e⟩ := p
 replace hq := hq _ rfl
 refine zc.run hmix KM [2, 5, 6, 10, 11, 65, 66, 67] 400 (T := .ex (fun (x : List Ev) => eqL [AV.agg [AV.sl l.length 9 (evG l)]] [AV.agg [AV.sl x.length 9 (evG x)]] ∧ WS x) fun n => .all (fun (r : Bool) => r = false → fitL n) fun n => .ex (fun (x : Ev) => n = false → eqL [AV.agg [AV.int .u8 e.kind, AV.int .i64 e.id, AV.int .i64 e.entry, AV.int .i64 e.target, AV.int .i64 e.date, AV.str e.zb, AV.str e.name, AV.str e.value, AV.bool e.first]] [AV.agg [AV.int .u8 x.kind, AV.int .i64 x.id, AV.int .i64 x.entry, AV.int .i64 x.target, AV.int .i64 x.date, AV.str x.zb, AV.str x.name, AV.str x.value, AV.bool x.first]] ∧ Zb x) fun n_1 => .all (fun (x : Bool) => n = false → x = false → zC n_1) fun n_2 => .ite (bif n then true else n_2) (.leaf (.ret [.bool true] [.box [.sl l.length 9 (evG l)], .box [.int .u8 e.kind, .int .i64 e.id, .int .i64 e.entry, .int .i64 e.target, .int .i64 e.date, .str e.zb, .str e.name, .str e.value, .bool e.first]])) (.side (0 = 0 ∧ 0 ≤ 0 ∧ (0 + l.length) * 96 ≤ 140737488355328) (.ex (fun (x : List Ev × Ev) => eqL [AV.agg [AV.sl l.length 9 (evG l)], AV.agg [AV.int .u8 e.kind, AV.int .i64 e.id, AV.int .i64 e.entry, AV.int .i64 e.target, AV.int .i64 e.date, AV.str e.zb, AV.str e.name, AV.str e.value, AV.bool e.first]] [AV.agg [AV.sl x.1.length 9 (evG x.1)], AV.agg [AV.int .u8 x.2.kind, AV.int .i64 x.2.id, AV.int .i64 x.2.entry, AV.int .i64 x.2.target, AV.int .i64 x.2.date, AV.str x.2.zb, AV.str x.2.name, AV.str x.2.value, AV.bool x.2.first]] ∧ evP x.1 ∧ zC x.2) fun n => .all (fun (r : List Ev × Int) => r = appS n.1 n.2) fun n => .ex (fun (x : List Ev × Ev) => eqL [AV.agg [AV.sl l.length 9 (evG l)], AV.agg [AV.int .u8 e.kind, AV.int .i64 e.id, AV.int .i64 e.entry, AV.int .i64 e.target, AV.int .i64 e.date, AV.str e.zb, AV.str e.name, AV.str e.value, AV.bool e.first]] [AV.agg [AV.sl x.1.length 9 (evG x.1)], AV.agg [AV.int .u8 x.2.kind, AV.int .i64 x.2.id, AV.int .i64 x.2.entry, AV.int .i64 x.2.target, AV.int .i64 x.2.date, AV.str x.2.zb, AV.str x.2.name, AV.str x.2.value, AV.bool x.2.first]] ∧ evP x.1 ∧ zC x.2) fun n_3 => .all (fun (r : List Ev × Int) => r = appR n_3.1 n_3.2) fun n_4 => .ex (fun (x : List Ev × List Ev) => eqL [AV.sl n.1.length 9 (zg (evG n.1) 0), AV.sl n_4.1.length 9 (evG n_4.1)] [AV.sl x.1.length 9 (evG x.1), AV.sl x.2.length 9 (evG x.2)] ∧ x.1.length < 1099511627776) fun n_5 => .all (fun (r : Bool) => r = true ↔ n_5.1 = n_5.2) fun n_6 => .ex (fun (x : List Ev) => (bif n_6 then decide (n.2 = n_4.2) else false) = true → eqL [AV.agg [AV.sl l.length 9 (evG l)]] [AV.agg [AV.sl x.length 9 (evG x)]] ∧ evP x) fun n_7 => .all (fun (x : Int) => (bif n_6 then decide (n.2 = n_4.2) else false) = true → x = if Option.isSome (SS.play { evs := [], lat := [] } n_7) = true then (0 : Int) else (8 : Int)) fun n_8 => .ex (fun (x : List Ev) => (bif n_6 then decide (n.2 = n_4.2) else false) = true → eqL [AV.agg [AV.sl l.length 9 (evG l)]] [AV.agg [AV.sl x.length 9 (evG x)]] ∧ evP x) fun n_9 => .all (fun (x : Bool) => (bif n_6 then decide (n.2 = n_4.2) else false) = true → x = qO n_9) fun n_10 => .leaf (.loop (Prod.fst (lps K3 0)) (Prod.snd (lps K3 0)) [(2, .ptr 0 0), (5, .ptr 3 0), (6, .ptr 5 0), (10, .bool (bif bif n_6 then decide (n.2 = n_4.2) else false then decide (n_8 = 0) == n_10 else false)), (11, .int .i64 0), (65, .undef), (66, .undef), (67, .undef)] [.box [.sl l.length 9 (evG l)], .box [.int .u8 e.kind, .int .i64 e.id, .int .i64 e.entry, .int .i64 e.target, .int .i64 e.date, .str e.zb, .str e.name, .str e.value, .bool e.first], .arr (0 + l.length) 9 (appG 0 (zd 9 []) (evG l)), .box [.osl 2 9 0 (0 + l.length)], .arr n.1.length 9 (evG n.1), .box [.osl 4 9 0 n.1.length], .box [.sl n_4.1.length 9 (evG n_4.1)], .box [.osl 4 9 0 n.1.length], .box [.sl n_4.1.length 9 (evG n_4.1)]])))) (by kernel_rfl) ?_
 simp only [Tree.holds, ze]
 obtain ⟨hg, hu⟩ := hp
 have fin : ∀ (b : Bool) (h : Heap), b = true → RetR Yy 0 Q [.bool b] h := by
  rintro b h rfl
  exact RetR.scal hq rfl rfl
 refine ⟨l, ⟨by simp [evS, za], hg⟩, ⟨true, fun g => (by cases g)⟩, ?_⟩
 intro g1 hg1
 refine ⟨e, fun _ => ⟨by simp [Ev.av], hu⟩, ⟨true, fun _ g => (by cases g)⟩, ?_⟩
 intro g2 hg2
 refine ⟨fun _ => fin _ _ rfl, fun h => ?_⟩
 rw [JK, Bool.or_eq_false_iff] at h
 obtain ⟨rfl, rfl⟩ := h
 have hf := hg1 rfl
 have hs := hg2 rfl rfl
 have hl : l.length ≤ 60 := hf.1
 have hP : evP l := ⟨by omega, hf.2⟩
 clear hg1 hg2 hu hg
 refine ⟨⟨trivial, Nat.le_refl _, by omega⟩, fun _ => ?_⟩
 refine ⟨(l, e), ⟨by simp [Ev.av, evS, za], hP, hs⟩, ⟨_, rfl⟩, ?_⟩
 intro a ha
 replace ha : a = appS l e := ha
 refine ⟨(l, e), ⟨by simp [Ev.av, evS, za], hP, hs⟩, ⟨_, rfl⟩, ?_⟩
 intro b hb
 replace hb : b = appR l e := hb
 have hab : a = b := by rw [ha, hb, YF]
 have hal : a.1.length < 2 ^ 40 := by
  rw [hab, hb]
  unfold appR
  split
  ·simp
  ·split
   ·simp
   ·simp; omega
 refine ⟨(a.1, b.1), ⟨by simp [Zq, za], hal⟩, ⟨true, by rw [hab]; simp⟩, ?_⟩
 intro c hc
 have hct : c = true := hc.2 (by rw [hab])
 subst hct
 have hd : (bif true then decide (a.2 = b.2) else false) = true := by rw [hab]; simp
 refine ⟨l, fun _ => ⟨by simp [evS, za], hP⟩, ⟨_, fun _ => rfl⟩, ?_⟩
 intro z hz
 refine ⟨l, fun _ => ⟨by simp [evS, za], hP⟩, ⟨_, fun _ => rfl⟩, ?_⟩
 intro y hy
 have hok : (bif bif true then decide (a.2 = b.2) else false then decide (z = 0) == y else false) = true := by
  rw [hd, hz hd, hy hd, ← (yz (l := l)).1]
  cases (SS.play ⟨[], []⟩ l).isSome <;> rfl
 rw [hok]
 generalize hn : a.1.length = n at hal
 generalize evG a.1 = g0
 refine zc.loop (ι := {p : Nat × (Nat → Nat → AV) // p.1 ≤ n}) (fun p => SLa p.1.1) (fun p => HLa l n p.1.2) (fun p => n - p.1.1) ⟨(0, g0), Nat.zero_le _⟩ 0 ?_ ?_ (by kernel_rfl)
 ·exact ⟨by simp [SLa], by simp [HLa, evS, za, V8], by kernel_rfl, Nat.zero_le _⟩
 ·rintro ⟨⟨i, g⟩, hil⟩
  simp only at hil
  refine zc.run hmix KM [2, 5, 6, 10, 11, 65, 66, 67] 400 (T := .ite (decide ((↑i : Int) < n)) (.side ((0 : Int) ≤ i ∧ (↑i : Int) < n) (.side (inR .i64 ((↑i : Int) + (1 : Int))) (.leaf (.back 0 [(2, .ptr 0 0), (5, .ptr 3 0), (6, .ptr 5 0), (10, .bool true), (11, .int .i64 ((↑i : Int) + (1 : Int))), (65, .undef), (66, .undef), (67, .undef)] [.box [.sl l.length 9 (evG l)], .dead, .arr l.length 9 (evG l), .box [.osl 2 9 0 l.length], .arr n 9 (updG g (0 + Int.toNat (↑i : Int)) 1 [.int .i64 (-7 : Int)]), .box [.osl 4 9 0 n]])))) (.ite true (.ex (fun (x : List Ev × List Ev) => eqL [AV.sl l.length 9 (evG l), AV.sl l.length 9 (zg (evG l) 0)] [AV.sl x.1.length 9 (evG x.1), AV.sl x.2.length 9 (evG x.2)] ∧ x.1.length < 1099511627776) fun n_1 => .all (fun (r : Bool) => r = true ↔ n_1.1 = n_1.2) fun n_2 => .leaf (.ret [.bool (bif true then n_2 else false)] [.box [.sl l.length 9 (evG l)], .dead, .arr l.length 9 (evG l), .box [.osl 2 9 0 l.length], .arr n 9 g, .box [.osl 4 9 0 n], .box [.sl l.length 9 (evG l)], .box [.osl 2 9 0 l.length]])) (.leaf (.ret [.bool false] [.box [.sl l.length 9 (evG l)], .dead, .arr l.length 9 (evG l), .box [.osl 2 9 0 l.length], .arr n 9 g, .box [.osl 4 9 0 n]])))) (by kernel_rfl) ?_
  simp only [Tree.holds, ze, Int.toNat_natCast, inR, lo, hi]
  refine ⟨fun h => ?_, fun h => ⟨fun _ => ?_, fun g => (by cases g)⟩⟩
  ·have hlt : i < n := by have := of_decide_eq_true h; omega
   refine ⟨by omega, fun _ => ⟨by omega, fun _ => ?_⟩⟩
   rw [if_pos trivial]
   exact ⟨⟨(i + 1, updG g (0 + i) 1 [.int .i64 (-7)]), hlt⟩, by show n - (i + 1) < n - i; omega, by simp [SLa], by simp [HLa, evS, za], by kernel_rfl, Nat.zero_le _⟩
  ·refine ⟨(l, l), ⟨by simp [Zq, za], by show l.length < _; omega⟩, ⟨true, by simp⟩, ?_⟩
   intro b hb
   have : b = true := hb.2 rfl
   subst this
   exact fin _ _ rfl
end Go.Proofs.Try
end

/- From a reading of the arguments to their representation; from a contract to a call. -/
section
namespace Go.Sx
variable [Stat]
open Go.RowKit (Below)
def E0 : Nat → Prop := Own (fun _ => False) []
theorem Uq (b : Nat) : ¬ E0 b := by
 rintro (h | ⟨e, he, _⟩)
 ·exact h
 ·simp at he
def Tw (P : Program) (W : World) (t : TypeId) (cs : List Value) : Prop := ∃ (H : Type) (enc : TypeId × Value → H) (base fuel : Nat) (d : DataW H) (ps : List MemPlace), DataW.trod enc P W base (fun _ => true) true fuel t cs = some (d, ps) ∧ ∀ n ∈ d.weights P t, n ≤ reachBytes
section
variable {P : Program} {W : World} {t e : TypeId} {cs : List Value}
theorem JI (ht : P.underlying t = some .string) (h : Tw P W t cs) : ∃ s : List UInt8, cs = [.string ⟨s.toArray⟩] ∧ s.length ≤ reachBytes := by
 obtain ⟨H, enc, base, fuel, d, ps, h, hw⟩ := h
 obtain ⟨s, rfl, hx, _⟩ := DataW.trod_string ht h
 cases hx
 exact ⟨s.data.toList, by simp, hw _ (by simp [DataW.weights])⟩
theorem yW {k : IntKind} (ht : P.underlying t = some (.int k)) (h : Tw P W t cs) : ∃ n, cs = [.int k n] ∧ (Lit.int k n).wf = true := by
 obtain ⟨H, enc, base, fuel, d, ps, h, hw⟩ := h
 obtain ⟨n, rfl, hx, hwf⟩ := DataW.trod_int ht h
 exact ⟨n, rfl, hwf⟩
theorem Yj (ht : P.underlying t = some .bool) (h : Tw P W t cs) : ∃ b, cs = [.bool b] := by
 obtain ⟨H, enc, base, fuel, d, ps, h, hw⟩ := h
 obtain ⟨b, rfl, hx⟩ := DataW.trod_bool ht h
 exact ⟨b, rfl⟩
theorem Zw {fs : Array Field} (ht : P.underlying t = some (.struct fs)) (h : Tw P W t cs) : cs.length = P.cellsOf t ∧ ∀ (i : Nat) (f : Field), fs[i]? = some f → Tw P W f.type ((cs.drop f.offset).take (P.cellsOf f.type)) := by
 obtain ⟨H, enc, base, fuel, d, ps, h, hw⟩ := h
 obtain ⟨xs, n, _, hx, hl, hlen, hf⟩ := DataW.trod_struct ht h
 cases hx
 refine ⟨hl, fun i f hfi => ?_⟩
 have hi := hf i f hfi
 have hlt : i < xs.length := by
  rw [hlen]; exact (Array.getElem?_eq_some_iff.1 hfi).1
 rw [List.getElem?_eq_getElem hlt] at hi
 refine ⟨H, enc, base, n, xs[i].1, xs[i].2, hi, fun m hm => hw m ?_⟩
 simp only [DataW.weights, ht]
 exact DataW.weights_mem_each (j := i) (t := f.type) (d := xs[i].1) (by simp [hfi]) (by simp [hlt]) m hm
theorem vy {H : Type} {d : DataW H} : ∀ {l : List (DataW H)}, d ∈ l → ∀ n ∈ d.weights P e, n ∈ DataW.weightsAll P e l
 | x :: l, hd, n, hn => by
  simp only [DataW.weightsAll, List.mem_append]
  rcases List.mem_cons.1 hd with rfl | hd
  ·exact .inl hn
  ·exact .inr (vy hd n hn)
theorem K9 (ht : P.underlying t = some (.slice e)) (h : Tw P W t cs) : cs = [.slice none 0 0] ∨ ∃ (a : Addr) (len cap : Nat), cs = [.slice (some a) len cap] ∧ len ≤ cap ∧ cap * P.bytesOf e ≤ reachBytes ∧
  ∀ i, i < len → ∃ cs', cs'.length = P.cellsOf e ∧ (∀ o, o < P.cellsOf e → W.cell? ((a.add (i * P.cellsOf e)).add o) = cs'[o]?) ∧ Tw P W e cs' := by
 obtain ⟨H, enc, base, fuel, d, ps, h, hw⟩ := h
 rcases DataW.trod_slice ht h with ⟨rfl, _⟩ | ⟨a, len, cap, elems, rest, n, _, rfl, hx, hb, hl, hm, hlen, hel, hsp, _⟩
 ·exact .inl rfl
 ·right
  cases hx
  obtain ⟨hrl, _⟩ := hsp rfl
  simp only [DataW.weights, ht] at hw
  refine ⟨a, len, cap, rfl, hl, ?_, fun i hi => ?_⟩
  ·have := hw _ (List.mem_cons_self)
   simp only [List.length_map, hlen, hrl] at this
   rwa [show len + (cap - len) = cap by omega] at this
  ·have h1 := hel i hi
   have hlt : i < elems.length := by rw [hlen]; exact hi
   rw [List.getElem?_eq_getElem hlt, Option.bind_eq_some_iff] at h1
   obtain ⟨cs', h2, h3⟩ := h1
   obtain ⟨_, h4, h5⟩ := World.cells?_some h2
   refine ⟨cs', h4, h5, H, enc, base, n, elems[i].1, elems[i].2, h3, fun m hm2 => hw m ?_⟩
   simp only [List.mem_cons, List.mem_append]
   exact .inr (.inl (vy (d := elems[i].1) (List.mem_map.2 ⟨elems[i], List.getElem_mem hlt, rfl⟩) m hm2))
theorem Vb {α : Type} (z : α) (cell : α → Nat → AV) (good : α → Prop) {sz : Nat} (ht : P.underlying t = some (.slice e)) (hsz : P.cellsOf e = sz) (hpos : 0 < sz)
  (hel : ∀ cs', Tw P W e cs' → ∃ x : α, good x ∧ ∀ o, o < sz → ∃ c, cs'[o]? = some c ∧ c.oneCell' = true ∧ Rep E0 W (cell x o) [] c) (h : Tw P W t cs) :
  ∃ (l : List α) (v : Value), cs = [v] ∧ (∀ x ∈ l, good x) ∧ l.length * P.bytesOf e ≤ reachBytes ∧ v.oneCell' = true ∧ Rep E0 W (.sl l.length sz fun j => cell (l.getD j z)) [] v := by
 rcases K9 ht h with rfl | ⟨a, len, cap, rfl, hl, hw, hx⟩
 ·refine ⟨[], _, rfl, by simp, by simp, rfl, ?_⟩
  simp only [Rep]
  exact ⟨none, 0, rfl, Nat.le_refl _, .inl rfl⟩
 ·rw [hsz] at hx
  have hx2 : ∀ i, ∃ x : α, i < len → good x ∧ ∀ o, o < sz → ∃ c, W.cell? ((a.add (i * sz)).add o) = some c ∧ c.oneCell' = true ∧ Rep E0 W (cell x o) [] c := fun i => by
   by_cases hi : i < len
   ·obtain ⟨cs', h1, h2, h3⟩ := hx i hi
    obtain ⟨x, hg, hc⟩ := hel cs' h3
    exact ⟨x, fun _ => ⟨hg, fun o ho => by
     obtain ⟨c, g1, g2, g3⟩ := hc o ho
     exact ⟨c, by rw [h2 o ho, g1], g2, g3⟩⟩⟩
   ·exact ⟨z, fun h => absurd h hi⟩
  obtain ⟨f, hf⟩ := Classical.axiomOfChoice hx2
  have hgd : ∀ j, j < len → ((List.range len).map f).getD j z = f j := fun j hj => by simp [List.getD, hj]
  refine ⟨(List.range len).map f, _, rfl, fun x hxm => ?_, ?_, rfl, ?_⟩
  ·obtain ⟨i, hi, rfl⟩ := List.mem_map.1 hxm
   exact (hf i (List.mem_range.1 hi)).1
  ·simp only [List.length_map, List.length_range]
   exact Nat.le_trans (Nat.mul_le_mul_right _ hl) hw
  ·simp only [Rep, List.length_map, List.length_range]
   refine ⟨some a, cap, rfl, hl, ?_⟩
   rcases Nat.eq_zero_or_pos len with h0 | h0
   ·exact .inl h0
   ·right
    have hspot : a.spot = none := by
     obtain ⟨c, g1, _⟩ := (hf 0 h0).2 0 hpos
     have := World.cell?_spot g1
     simpa [Addr.add] using this
    refine ⟨a, rfl, hspot, fun j o hj ho => ⟨Uq _, ?_⟩⟩
    obtain ⟨c, g1, g2, g3⟩ := (hf j hj).2 o ho
    refine ⟨c, ?_, g2, by rw [hgd j hj]; exact g3⟩
    rw [← g1]
    obtain ⟨b, off, spot⟩ := a
    simp only at hspot
    subst hspot
    congr 1
    simp only [Addr.add]
    split <;> split <;> simp_all <;> omega
theorem VB {g : Nat} {fn : Func} {c : Code} (hf : P.funcs[g]? = some fn) (hb : fn.body = some c) (hn : (fn.name == "runtime.NumGoroutine") = false) {ctr : Ctr} (hok : zf P g ctr) {args : List AV} {vals : List Value}
  (hspec : (ctr.spec args []).holds fun r => r = (.bool true, [])) (hr : RepL E0 W args [] vals) (hst : wA E0 W) : Calls P g vals.toArray W fun e W' => e = .returned (.bool true) ∧ Below W.heap.size W W' := by
 have hn' : ¬ fn.name = "runtime.NumGoroutine" := by simpa using hn
 have hg : Good (fun _ => False) W [] := ⟨fun b h => h.elim, fun i e ad he => by simp at he, hst⟩
 have hh : HRep (Own (fun _ => False) []) W [] [] := ⟨rfl, fun i j e f a b he => by simp at he, fun i e a he => by simp at he, fun i e b he => by simp at he⟩
 rcases hok args [] _ hspec (fun _ => rfl) (fun _ => False) W [] vals hg hh hr with ⟨_, h⟩ | ⟨v, w', h, _⟩
 ·refine h.mono ?_
  rintro e W' ⟨v, rfl, r, hs, σ', hq, h1, _, _, _, _, hx⟩
  cases hq
  simp only [Rep] at h1
  subst h1
  exact ⟨rfl, hx.os, hx.tape, hx.output, hx.size, fun k hk => hx.keep k hk fun ⟨e, he, _⟩ => by simp at he⟩
 ·simp [callFunc, hf, hn', hb] at h
end
end Go.Sx
end

/- Recursive data as arguments; package-level maps that read as they are laid. -/
section
namespace Go.Sx
variable [Stat]
section
variable {P : Program} {W : World} {t e : TypeId} {cs : List Value}
end
section
open Go.WideElems Go.ChangeMaps
variable {H : Type} {enc : TypeId × Value → H} {P : Program} {W : World} {base : Nat} {sp : Nat → Bool} {held : Bool}
end
end Go.Sx
end

/- What rows hand to laws about logs: arguments as data. -/
section
set_option maxRecDepth 100000
namespace Go.Proofs.Ythhkojokgcngnaa
open Go Go.Sx Go.Nov Go.Proofs.Try Go.ChangeShapes Go.WideShapes Go.ChangeAt Go.RowKit
theorem Zp : Try.prog.cellsOf 9 = 1 := by kernel_rfl
theorem VI : Try.prog.cellsOf 25 = 1 := by kernel_rfl
theorem vY : Try.prog.cellsOf 3 = 1 := by kernel_rfl
theorem Xr : Try.prog.cellsOf 5 = 1 := by kernel_rfl
theorem J7 : Try.prog.cellsOf 4 = 1 := by kernel_rfl
theorem Qc : Try.prog.cellsOf 27 = 9 := by kernel_rfl
theorem Vq : Try.prog.cellsOf 22 = 1 := by kernel_rfl
theorem WV : Try.prog.cellsOf 24 = 1 := by kernel_rfl
theorem Qj {W : World} {cs : List Value} (h : Tw Try.prog W 27 cs) : ∃ x : Ev, (x.zb.length ≤ reachBytes ∧ x.name.length ≤ reachBytes ∧ x.value.length ≤ reachBytes) ∧ cs = [.int .u8 x.kind, .int .i64 x.id, .int .i64 x.entry, .int .i64 x.target, .int .i64 x.date, .string ⟨x.zb.toArray⟩, .string ⟨x.name.toArray⟩, .string ⟨x.value.toArray⟩, .bool x.first] := by
 obtain ⟨hl, hf⟩ := Zw Try.underlying27 h
 rw [Qc] at hl
 match cs, hl with
 | [a, b, c, d, e, f, g, h, i], _ =>
  have h0 : Tw Try.prog W 5 (([a, b, c, d, e, f, g, h, i].drop 0).take (Try.prog.cellsOf 5)) := hf 0 _ rfl
  rw [Xr] at h0
  replace h0 : Tw Try.prog W 5 [a] := h0
  have h1 : Tw Try.prog W 3 (([a, b, c, d, e, f, g, h, i].drop 1).take (Try.prog.cellsOf 3)) := hf 1 _ rfl
  rw [vY] at h1
  replace h1 : Tw Try.prog W 3 [b] := h1
  have h2 : Tw Try.prog W 3 (([a, b, c, d, e, f, g, h, i].drop 2).take (Try.prog.cellsOf 3)) := hf 2 _ rfl
  rw [vY] at h2
  replace h2 : Tw Try.prog W 3 [c] := h2
  have h3 : Tw Try.prog W 3 (([a, b, c, d, e, f, g, h, i].drop 3).take (Try.prog.cellsOf 3)) := hf 3 _ rfl
  rw [vY] at h3
  replace h3 : Tw Try.prog W 3 [d] := h3
  have h4 : Tw Try.prog W 3 (([a, b, c, d, e, f, g, h, i].drop 4).take (Try.prog.cellsOf 3)) := hf 4 _ rfl
  rw [vY] at h4
  replace h4 : Tw Try.prog W 3 [e] := h4
  have h5 : Tw Try.prog W 9 (([a, b, c, d, e, f, g, h, i].drop 5).take (Try.prog.cellsOf 9)) := hf 5 _ rfl
  rw [Zp] at h5
  replace h5 : Tw Try.prog W 9 [f] := h5
  have h6 : Tw Try.prog W 9 (([a, b, c, d, e, f, g, h, i].drop 6).take (Try.prog.cellsOf 9)) := hf 6 _ rfl
  rw [Zp] at h6
  replace h6 : Tw Try.prog W 9 [g] := h6
  have h7 : Tw Try.prog W 25 (([a, b, c, d, e, f, g, h, i].drop 7).take (Try.prog.cellsOf 25)) := hf 7 _ rfl
  rw [VI] at h7
  replace h7 : Tw Try.prog W 25 [h] := h7
  have h8 : Tw Try.prog W 4 (([a, b, c, d, e, f, g, h, i].drop 8).take (Try.prog.cellsOf 4)) := hf 8 _ rfl
  rw [J7] at h8
  replace h8 : Tw Try.prog W 4 [i] := h8
  obtain ⟨x0, y0, w0⟩ := yW Try.underlying5 h0
  obtain ⟨x1, y1, w1⟩ := yW Try.underlying3 h1
  obtain ⟨x2, y2, w2⟩ := yW Try.underlying3 h2
  obtain ⟨x3, y3, w3⟩ := yW Try.underlying3 h3
  obtain ⟨x4, y4, w4⟩ := yW Try.underlying3 h4
  obtain ⟨x5, y5, w5⟩ := JI Try.underlying9 h5
  obtain ⟨x6, y6, w6⟩ := JI Try.underlying9 h6
  obtain ⟨x7, y7, w7⟩ := JI Try.underlying25 h7
  obtain ⟨x8, y8⟩ := Yj Try.underlying4 h8
  cases y0; cases y1; cases y2; cases y3; cases y4; cases y5; cases y6; cases y7; cases y8
  exact ⟨⟨x0, x1, x2, x3, x4, x5, x6, x7, x8⟩, ⟨w5, w6, w7⟩, rfl⟩
theorem YI {W : World} {cs : List Value} (h : Tw Try.prog W 27 cs) : ∃ x : Ev, Zb x ∧ Rep E0 W x.av [] (.agg cs.toArray) := by
 obtain ⟨x, hx, rfl⟩ := Qj h
 have hr := reachBytes_lt
 refine ⟨x, ⟨by omega, by omega, by omega⟩, ?_⟩
 simp only [RepL, Rep, Ev.av]
 exact ⟨_, rfl, _, _, rfl, rfl, _, _, rfl, rfl, _, _, rfl, rfl, _, _, rfl, rfl, _, _, rfl, rfl, _, _, rfl, rfl, _, _, rfl, rfl, _, _, rfl, rfl, _, _, rfl, rfl, rfl⟩
theorem Vf {W : World} {cs : List Value} (h : Tw Try.prog W 24 cs) : ∃ l : List Ev, WS l ∧ Rep E0 W (.agg [evS l]) [] (.agg cs.toArray) := by
 obtain ⟨hl, hf⟩ := Zw Try.underlying24 h
 rw [WV] at hl
 match cs, hl with
 | [a], _ =>
  have h0 : Tw Try.prog W 22 (([a].drop 0).take (Try.prog.cellsOf 22)) := hf 0 _ rfl
  rw [Vq] at h0
  replace h0 : Tw Try.prog W 22 [a] := h0
  obtain ⟨l, v, e1, gl, wl, _, rl⟩ := Vb Ev.nil Ev.cell (fun x => x.zb.length ≤ reachBytes ∧ x.name.length ≤ reachBytes ∧ x.value.length ≤ reachBytes) Try.underlying22 Qc (by decide) (fun cs' h' => by
   obtain ⟨x, hx, rfl⟩ := Qj h'
   refine ⟨x, hx, fun o ho => ?_⟩
   match o, ho with
   | 0, _ => exact ⟨_, rfl, rfl, by simp [Rep, Ev.cell]⟩
   | 1, _ => exact ⟨_, rfl, rfl, by simp [Rep, Ev.cell]⟩
   | 2, _ => exact ⟨_, rfl, rfl, by simp [Rep, Ev.cell]⟩
   | 3, _ => exact ⟨_, rfl, rfl, by simp [Rep, Ev.cell]⟩
   | 4, _ => exact ⟨_, rfl, rfl, by simp [Rep, Ev.cell]⟩
   | 5, _ => exact ⟨_, rfl, rfl, by simp [Rep, Ev.cell]⟩
   | 6, _ => exact ⟨_, rfl, rfl, by simp [Rep, Ev.cell]⟩
   | 7, _ => exact ⟨_, rfl, rfl, by simp [Rep, Ev.cell]⟩
   | 8, _ => exact ⟨_, rfl, rfl, by simp [Rep, Ev.cell]⟩) h0
  have b1 : Try.prog.bytesOf 27 = 96 := by kernel_rfl
  rw [b1] at wl
  have hr := reachBytes_lt
  refine ⟨l, ⟨by omega, fun j hj => ?_⟩, ?_⟩
  ·have := gl (l.getD j Ev.nil) (by simp [List.getD, hj])
   exact ⟨by omega, by omega, by omega⟩
  ·simp only [RepL, Rep]
   cases e1
   exact ⟨_, rfl, _, _, rfl, rl, rfl⟩
end Go.Proofs.Ythhkojokgcngnaa
end

/- For every input the law returns true, and each argument reads behind the call as it read before. -/
section
set_option maxRecDepth 100000
namespace Go.Proofs.Ythhkojokgcngnaa
open Go Go.Sx Go.Nov Go.Proofs.Try Go.ChangeShapes Go.WideShapes Go.ChangeAt Go.RowKit
theorem walk {W : World} {v0 v1 : List Value} (h0 : Tw Try.prog W 24 v0) (h1 : Tw Try.prog W 27 v1) :
  Calls Try.prog 3 #[.agg v0.toArray, .agg v1.toArray] W fun e W' => e = .returned (.bool true) ∧ Below W.heap.size W W' := by
 obtain ⟨l, lg, lr⟩ := Vf h0
 obtain ⟨e, eg, er⟩ := YI h1
 refine VB (fn := Try.f3) (c := Try.f3.body.getD .skip) rfl rfl rfl Xf (args := [.agg [evS l], e.av]) (vals := [.agg v0.toArray, .agg v1.toArray]) ?_ ?_ V4
 ·refine ⟨(l, e), ⟨?_, ⟨lg, eg⟩⟩, ⟨true, rfl⟩, ?_⟩
  ·simp [eqL, eqA, eqA0, eqL0, envA, fxS, chS, Fx.av, Ch.av, Ex.exA, Ex.exS, evS,Ev.av, za]
  ·rintro _ rfl
   rfl
 ·exact ⟨_, _, rfl, lr, ⟨_, _, rfl, er, rfl⟩⟩
theorem own : ownKnob Try.prog.godebug = none := by kernel_rfl
theorem laid : laidOutB Try.prog = true := by kernel_rfl
theorem lifted (os : Os) (started : os.Started) (H : Type) (enc : TypeId × Value → H) :
  ReturnsInHanded {} Try.checked os 3 .any (Rows.storeAppendsSpec.pre6 enc Try.prog Try.f3 Rows.storeAppendsRow.domain false) (Rows.storeAppendsSpec.post enc Try.prog Try.f3 false true false false) := by
 refine returnsInHanded_of_change_sized (C := Try.checked) own started (by kernel_rfl) Try.func3
  (ChangeSpec.witness6 (enc := enc) (C := Try.checked) false ⟨#[], #[.agg #[.slice none 0 0], .agg #[.int .u8 0, .int .i64 0, .int .i64 0, .int .i64 0, .int .i64 0, .string ⟨#[]⟩, .string ⟨#[]⟩, .string ⟨#[]⟩, .bool false]], []⟩ 8 (by kernel_rfl) (by kernel_rfl) (by kernel_rfl) (by kernel_rfl)) ?_
 intro W base args ds gs before hval0 hW hcnd hwt _
 have hval : ∀ (j : Nat) t v, Try.f3.params[j]? = some t → args[j]? = some v → Value.okWide Try.prog W .any base t v := hval0
 have hW' := hW
 obtain ⟨p, q, hA0, hV, rfl, hfz, hnd⟩ := hW
 have hA : DataW.TrodAll enc Try.prog W 0 (fun _ => true) true Try.f3.params.toList args.toList ds p := hA0
 rw [Try.params3] at hA hval
 obtain ⟨v0, vs0, d0, ds0, p0, q0, hargs, rfl, rfl, h0, r0⟩ := trodAll_cons hA
 obtain ⟨v1, vs1, d1, ds1, p1, q1, rfl, rfl, rfl, h1, r1⟩ := trodAll_cons r0
 obtain ⟨rfl, rfl, rfl⟩ := trodAll_nil r1
 obtain rfl : args = #[v0, v1] := by cases args; simp_all
 obtain ⟨rfl, rfl⟩ := trodVars_none hV
 clear hA0 hval0
 simp only [List.append_nil] at hW' hwt
 have hw : ∀ (j : Nat) (t : TypeId) (d : DataW H), [24, 27][j]? = some t → [d0, d1][j]? = some d → ∀ n ∈ d.weights Try.prog t, n ≤ reachBytes := fun j t d ht hd n hn => by
  have := List.all_eq_true.1 hwt n (DataW.weights_mem_each (j := j) (t := t) (d := d) (by exact ht) (by exact hd) n hn)
  simpa using this
 obtain ⟨c0, rfl, _⟩ := okWide_struct Try.underlying24 (hval 0 24 v0 rfl rfl)
 obtain ⟨c1, rfl, _⟩ := okWide_struct Try.underlying27 (hval 1 27 v1 rfl rfl)
 have t0 : Tw Try.prog W 24 c0.toList := by
  obtain ⟨fuel, hf⟩ := h0
  exact ⟨H, enc, 0, fuel, d0, p0, by simpa [Value.cells] using hf, hw 0 _ d0 rfl rfl⟩
 have t1 : Tw Try.prog W 27 c1.toList := by
  obtain ⟨fuel, hf⟩ := h1
  exact ⟨H, enc, 0, fuel, d1, p1, by simpa [Value.cells] using hf, hw 1 _ d1 rfl rfl⟩
 have hlt : ∀ x ∈ p0 ++ p1, x.block < W.heap.size := fun x hx => by simpa using hW'.lt x (by simpa using hx)
 have hcall := walk t0 t1
 simp only [Array.toArray_toList] at hcall
 refine hcall.mono fun e W' ⟨he, hb⟩ => ?_
 subst he
 refine ⟨_, rfl, _, _, _, [], p0 ++ p1, [], hW', trodAll_mk1 (shut_bool Try.underlying4 true), ?_, rfl, hb.frame _, fun h => by cases h⟩
 exact trodAll_mk2 (Below.trod laid (by kernel_rfl) (of_decide_eq_true (by kernel_rfl)) h0 hb fun x hx => hlt x (by simp [hx])) (Below.trod laid (by kernel_rfl) (of_decide_eq_true (by kernel_rfl)) h1 hb fun x hx => hlt x (by simp [hx]))
theorem over : Rows.storeAppendsRow.holds Try.pinned (OpenSpec.ofChange Rows.storeAppendsSpec) :=
 OpenClaim.holds_of_wide 3 Try.f3 rfl rfl rfl rfl rfl rfl rfl ⟨rfl, rfl, rfl, rfl, rfl⟩ rfl rfl rfl rfl rfl (by kernel_rfl) Try.func3 (by kernel_rfl)
  (of_decide_eq_true (by kernel_rfl)) (by unfold Func.isWrapper; first | (rw [if_pos (by decide +kernel)]; kernel_rfl) | (rw [if_neg (by decide +kernel)]; exact ⟨rfl, rfl⟩))
  (fun os started H enc _ => lifted os started H enc)
theorem storeAppends_holds : Rows.StoreAppendsSaid := over
end Go.Proofs.Ythhkojokgcngnaa
end
