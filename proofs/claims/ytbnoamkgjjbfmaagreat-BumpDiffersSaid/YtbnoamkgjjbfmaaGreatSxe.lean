/- Part 5 of the proof. -/
import Derived.Test.YtbnoamkgjjbfmaaGreatSxd
set_option linter.unusedVariables false
set_option linter.unusedSimpArgs false
set_option linter.unusedSectionVars false

/- Rationals: splitting and checking. -/
section
set_option maxRecDepth 100000
open Go Go.Sx Go.Proofs Go.Nov
namespace Go.Proofs.Tryz
attribute [local simp] eqKV eqA eqA0 eqH eqB eqL eqL0
noncomputable def K63 : List Go.Sx.Item := [.code (Tryz.f63.body.getD .skip)]
theorem uF (s : List UInt8) : Lib.indexByte s 47 = if z5 s < s.length then (z5 s : Int) else -1 := by
 induction s with
 | nil => rfl
 | cons c s ih =>
  simp only [Lib.indexByte, z5, List.findIdx_cons]
  cases h : (c == 47) with
  | true => simp
  | false =>
   simp only [Bool.false_eq_true, if_false, ih, cond_false, List.length_cons]
   show _ = if z5 s + 1 < s.length + 1 then ((z5 s + 1 : Nat) : Int) else -1
   by_cases h2 : z5 s < s.length
   ·rw [if_pos h2, if_neg (by simp), if_pos (by omega)]; omega
   ·rw [if_neg h2, if_pos (by rfl), if_neg (by omega)]
def K8 : Ctr := ctrP true (fun s : List UInt8 => [.str s, .str [47]]) (fun s => True) (fun s r => r = if z5 s < s.length then (z5 s : Int) else -1) (fun _ (r : Int) => (.int .i64 r, []))
theorem zap : zg Tryz.prog 104 K8 := by
 intro args hc Q hq _
 simp only [K8, ctrP] at hq
 split at hq
 ·obtain ⟨s, ⟨h1, _⟩, _, h3⟩ := hq
  have hq := h3 _ rfl
  simp only [Tree.holds] at hq
  refine j5.le h1 ?_
  intro O w σ vals hg hh hr
  simp only [RepL, Rep] at hr
  obtain ⟨v1, r1, rfl, rfl, v2, r2, rfl, rfl, rfl⟩ := hr
  refine .inl ⟨enters_of Tryz.func104 (by kernel_rfl) rfl .., ?_⟩
  refine (Tryz.K6 ⟨s.toArray⟩ 47 w).mono ?_
  rintro e w' ⟨rfl, rfl⟩
  have hx := uF s
  have h0 : σ = [] := List.length_eq_zero_iff.1 hh.len
  subst h0
  refine ⟨_, rfl, _, [], [], hq, ?_, ⟨rfl, fun i j e f a b h => by simp at h, fun i e a h => by simp at h, fun i e b h => by simp at h⟩, hg, Nat.le_refl _, Hold.refl _ _ _, Ext.refl _ _⟩
  simp only [Rep]
  rw [← hx]
 ·exact hq.elim
def cutC : Ctr := ctrP true (fun s : List UInt8 => [.str s, .str [47]]) (fun s => s.length < 2 ^ 62) (fun s r => r = cutR s) (fun _ r => (.tup [.str r.1, .str r.2.1, .bool r.2.2], []))
noncomputable def GC1 : Nat → Option Ctr := fun f => if f = 104 then some (K8) else none
theorem ze7 : ∀ g c, GC1 g = some c → zg Tryz.prog g c := okIf zap (zp)
theorem zcx : zg Tryz.prog 95 cutC := by
 refine zi (fn := Tryz.f95) (c := Tryz.f95.body.getD .skip) rfl rfl rfl fun s hs O w0 Q hq => ?_
 replace hq := hq _ rfl
 refine zd.run hmix ze7 [] 400 (T := .ex (fun (x : List UInt8) => eqL [AV.str s, AV.str [(47 : UInt8)]] [AV.str x, AV.str [(47 : UInt8)]] ∧ True) fun n => .all (fun (r : Int) => r = if z5 n < n.length then (↑(z5 n) : Int) else (-1 : Int)) fun n => .ite (decide ((0 : Int) ≤ n)) (.side ((0 : Int) ≤ n ∧ n ≤ (↑s.length : Int)) (.side (inR .i64 (n + (1 : Int))) (.side ((0 : Int) ≤ n + (1 : Int) ∧ n + (1 : Int) ≤ s.length) (.leaf (.ret [.str (List.drop 0 (List.take (Int.toNat n) s)), .str (List.drop (Int.toNat (n + (1 : Int))) (List.take s.length s)), .bool true] []))))) (.leaf (.ret [.str s, .str (Array.toList #[]), .bool false] []))) (by kernel_rfl) ?_
 simp only [Tree.holds, ze, inR, lo, hi]
 refine ⟨s, ⟨by simp, trivial⟩, ⟨_, rfl⟩, ?_⟩
 rintro _ rfl
 by_cases h : z5 s < s.length
 ·simp only [if_pos h]
  rw [uK h] at hq
  refine ⟨fun _ => ⟨by omega, fun _ => ⟨by omega, fun _ => ⟨by omega, fun _ => ?_⟩⟩⟩, fun hn => ?_⟩
  ·refine RetR.scal hq rfl ?_
   simp [resV]
  ·have := of_decide_eq_false hn; omega
 ·simp only [if_neg h]
  rw [J2 h] at hq
  refine ⟨fun hn => ?_, fun _ => RetR.scal hq rfl (by simp [resV])⟩
  have := of_decide_eq_true hn; omega
noncomputable def GC2 : Nat → Option Ctr := fun f => if f = 95 then some (cutC) else none
theorem zfq : ∀ g c, GC2 g = some c → zg Tryz.prog g c := okIf zcx (zp)
theorem ze6 : zg Tryz.prog 74 cutC := by
 refine zi (fn := Tryz.f74) (c := Tryz.f74.body.getD .skip) rfl rfl rfl fun s hs O w0 Q hq => ?_
 replace hq := hq _ rfl
 refine zd.run hmix zfq [] 400 (T := .ex (fun (x : List UInt8) => eqL [AV.str s, AV.str [(47 : UInt8)]] [AV.str x, AV.str [(47 : UInt8)]] ∧ x.length < 4611686018427387904) fun n => .all (fun (r : List UInt8 × List UInt8 × Bool) => r = cutR n) fun n => .leaf (.ret [.str n.1, .str (n.2.1), .bool (n.2.2)] [])) (by kernel_rfl) ?_
 simp only [Tree.holds, ze, inR, lo, hi]
 refine ⟨s, ⟨by simp, hs⟩, ⟨_, rfl⟩, ?_⟩
 rintro _ rfl
 exact RetR.scal hq rfl (by simp [resV])
def KG : Ctr := ctrP true (fun s : List UInt8 => [.str s]) (fun s => s.length < 2 ^ 62) (fun s r => r = cutR s) (fun _ r => (.tup [.str r.1, .str r.2.1, .bool r.2.2], []))
noncomputable def GC3 : Nat → Option Ctr := fun f => if f = 74 then some (cutC) else if f = 49 then some (Qc) else none
theorem Ui : ∀ g c, GC3 g = some c → zg Tryz.prog g c := okIf ze6 (okIf ZD (zp))
theorem WK : zg Tryz.prog 47 KG := by
 refine zi (fn := Tryz.f47) (c := Tryz.f47.body.getD .skip) rfl rfl rfl fun s hs O w0 Q hq => ?_
 replace hq := hq _ rfl
 refine zd.run hmix Ui [] 400 (T := .ex (fun (x : List UInt8) => eqL [AV.str s, AV.str (Array.toList #[(47 : UInt8)])] [AV.str x, AV.str [(47 : UInt8)]] ∧ x.length < 4611686018427387904) fun n => .all (fun (r : List UInt8 × List UInt8 × Bool) => r = cutR n) fun n => .leaf (.ret [.str n.1, .str (n.2.1), .bool (n.2.2)] [])) (by kernel_rfl) ?_
 simp only [Tree.holds, ze, inR, lo, hi]
 refine ⟨s, ⟨by simp, hs⟩, ⟨_, rfl⟩, ?_⟩
 rintro _ rfl
 exact RetR.scal hq rfl (by simp [resV])
def zdw : Ctr := ctrP true (fun s : List UInt8 => [.str s]) (fun s => s.length < 2 ^ 62) (fun s r => r = if errI s = 12 then 12 else 0) (fun _ (r : Int) => (.int .i64 r, []))
theorem zcr : zg Tryz.prog 48 zdw := by
 refine zi (fn := Tryz.f48) (c := Tryz.f48.body.getD .skip) rfl rfl rfl fun s hs O w0 Q hq => ?_
 replace hq := hq _ rfl
 refine zd.run hmix Ui [] 400 (T := .ex (fun (x : List UInt8) => eqL [AV.str s] [AV.str x] ∧ x.length < 4611686018427387904) fun n => .all (fun (r : Int) => r = errI n) fun n => .ite (!decide (n = 14)) (.leaf (.ret [.int .i64 n] [])) (.leaf (.ret [.int .i64 0] []))) (by kernel_rfl) ?_
 simp only [Tree.holds, ze, inR, lo, hi]
 refine ⟨s, ⟨by simp, hs⟩, ⟨_, rfl⟩, ?_⟩
 rintro _ rfl
 rcases jR s with h | h | h <;> simp only [h] at hq ⊢
 all_goals
  refine ⟨fun h => ?_, fun h => ?_⟩
  all_goals first
   | (exfalso; revert h; decide)
   | exact RetR.scal hq rfl (by simp [resV])
def km : Ctr := ctrP true (fun s : List UInt8 => [.str s]) (fun s => s.length < 2 ^ 62) (fun s r => r = errR s) (fun _ (r : Int) => (.int .i64 r, []))
noncomputable def GC4 : Nat → Option Ctr := fun f => if f = 47 then some (KG) else if f = 48 then some (zdw) else if f = 49 then some (Qc) else if f = 50 then some (gcdC) else none
theorem ze4 : ∀ g c, GC4 g = some c → zg Tryz.prog g c := okIf WK (okIf zcr (okIf ZD (okIf YX (zp))))
theorem wK : zg Tryz.prog 30 km := by
 refine zi (fn := Tryz.f30) (c := Tryz.f30.body.getD .skip) rfl rfl rfl fun s hs O w0 Q hq => ?_
 replace hq := hq _ rfl
 refine zd.run hmix ze4 [] 400 (T := .ex (fun (x : List UInt8) => eqL [AV.str s] [AV.str x] ∧ x.length < 4611686018427387904) fun n => .all (fun (r : List UInt8 × List UInt8 × Bool) => r = cutR n) fun n => .ex (fun (x : List UInt8) => eqL [AV.str n.1] [AV.str x] ∧ x.length < 4611686018427387904) fun n_1 => .all (fun (r : Int) => r = if errI n_1 = 12 then (12 : Int) else (0 : Int)) fun n_2 => .ex (fun (x : List UInt8) => (!decide (n_2 = 0)) = false ∧ n.2.2 = true → eqL [AV.str (n.2.1)] [AV.str x] ∧ x.length < 4611686018427387904) fun n_3 => .all (fun (x : Int) => (!decide (n_2 = 0)) = false ∧ n.2.2 = true → x = if errI n_3 = 12 then (12 : Int) else (0 : Int)) fun n_4 => .side (((!decide (n_2 = 0)) = false ∧ n.2.2 = true) ∧ (!decide (n_4 = 0)) = false → (0 : Int) ≤ 0 ∧ (0 : Int) < (↑(List.length (n.2.1)) : Int)) (.ite (bif !decide (n_2 = 0) then true else bif n.2.2 then bif bif bif !decide (n_4 = 0) then true else decide ((↑(UInt8.toNat (List.getD (n.2.1) 0 (0 : UInt8))) : Int) = 45) then true else decide (n.2.1 = Array.toList #[(48 : UInt8)]) then true else decide (n.2.1 = Array.toList #[(49 : UInt8)]) else false) (.leaf (.ret [.int .i64 12] [])) (.ex (fun (x : List UInt8) => eqL [AV.str n.1] [AV.str x] ∧ x.length < 4611686018427387904) fun n_5 => .all (fun (r : Int) => r = errI n_5) fun n_6 => .ex (fun (x : List UInt8) => (!decide (n_6 = 0)) = false ∧ n.2.2 = true → eqL [AV.str (n.2.1)] [AV.str x] ∧ x.length < 4611686018427387904) fun n_7 => .all (fun (x : Int) => (!decide (n_6 = 0)) = false ∧ n.2.2 = true → x = errI n_7) fun n_8 => .ite (bif !decide (n_6 = 0) then true else bif n.2.2 then !decide (n_8 = 0) else false) (.leaf (.ret [.int .i64 14] [])) (.ite (n.2.2) (.ex (fun (x : List UInt8 × List UInt8) => eqL [AV.str n.1, AV.str (n.2.1)] [AV.str x.1, AV.str x.2] ∧ x.1.length < 4611686018427387904 ∧ x.2.length < 4611686018427387904) fun n => .all (fun (r : List UInt8 × Int) => r = gcdR n.1 n.2) fun n => .ite (!decide (n.1 = Array.toList #[(49 : UInt8)])) (.leaf (.ret [.int .i64 12] [])) (.leaf (.ret [.int .i64 0] []))) (.leaf (.ret [.int .i64 0] [])))))) (by kernel_rfl) ?_
 simp only [Tree.holds, ze, inR, lo, hi]
 refine ⟨s, ⟨by simp, hs⟩, ⟨_, rfl⟩, ?_⟩
 rintro _ rfl
 have hlen := uP s
 have hno : (cutR s).2.2 = false → (cutR s).1 = s := by
  intro h
  unfold cutR at h ⊢
  split at h
  ·cases h
  ·rename_i hn; rw [if_neg hn]
 simp only [errR] at hq
 generalize cutR s = c at hq hlen hno ⊢
 obtain ⟨n, d, f⟩ := c
 simp only at hq hlen hno ⊢
 refine ⟨n, ⟨by simp, by omega⟩, ⟨_, rfl⟩, ?_⟩
 rintro _ rfl
 refine ⟨d, fun _ => ⟨by simp, by omega⟩, ⟨_, fun _ => rfl⟩, ?_⟩
 intro fd hfd
 cases f with
 | false =>
  have hn := hno rfl
  subst hn
  rw [if_neg (by decide)] at hq
  refine ⟨fun h => by simp at h, fun _ => ⟨fun h => ?_, fun h => ?_⟩⟩
  ·rcases jR n with e | e | e <;> rw [e] at hq h
   ·simp at h
   ·exact RetR.scal hq rfl (by simp [resV])
   ·simp at h
  ·have hn12 : errI n ≠ 12 := by
    intro e; rw [e] at h; simp at h
   refine ⟨n, ⟨by simp, by omega⟩, ⟨_, rfl⟩, ?_⟩
   rintro _ rfl
   refine ⟨d, fun _ => ⟨by simp, by omega⟩, ⟨_, fun _ => rfl⟩, ?_⟩
   intro fd2 _
   refine ⟨fun h => ?_, fun h => ⟨fun h => (by cases h), fun _ => ?_⟩⟩
   ·rcases jR n with e | e | e
    ·rw [e] at h; simp at h
    ·exact absurd e hn12
    ·rw [e] at hq; exact RetR.scal hq rfl (by simp [resV])
   ·rcases jR n with e | e | e
    ·rw [e] at hq; exact RetR.scal hq rfl (by simp [resV])
    ·exact absurd e hn12
    ·rw [e] at h; simp at h
 | true =>
  rw [if_pos rfl] at hq
  by_cases hn : errI n = 12
  ·rw [if_pos (.inl hn)] at hq
   simp only [hn]
   refine ⟨fun h => by simp at h, fun _ => ⟨fun _ => RetR.scal hq rfl (by simp [resV]), fun h => by simp at h⟩⟩
  ·rw [if_neg hn] at hfd ⊢
   have hfd := hfd ⟨by simp, rfl⟩
   subst hfd
   by_cases hd : errI d = 12
   ·rw [if_pos (.inr (.inl hd))] at hq
    rw [if_pos hd]
    refine ⟨fun h => by simp at h, fun _ => ⟨fun _ => RetR.scal hq rfl (by simp [resV]), fun h => by simp at h⟩⟩
   ·rw [if_neg hd]
    have hd0 : d ≠ [] := by rintro rfl; exact hd ZV
    have hneg := yY hd0
    have hneg2 : decide (((d.getD 0 0).toNat : Int) = 45) = negI d := by
     rw [hneg]
     by_cases h : d.getD 0 0 = 45
     ·rw [h]; rfl
     ·rw [decide_eq_false h]
      refine decide_eq_false fun h2 => h (yr ?_)
      rw [h2]; rfl
    rw [hneg2]
    refine ⟨fun _ => by have := List.length_pos_iff.2 hd0; omega, fun _ => ⟨fun h => ?_, fun h => ?_⟩⟩
    ·have : negI d = true ∨ d = [48] ∨ d = [49] := by
      revert h
      cases negI d <;> simp
     rw [if_pos (.inr (.inr this))] at hq
     exact RetR.scal hq rfl (by simp [resV])
    ·have : ¬ (errI n = 12 ∨ errI d = 12 ∨ negI d = true ∨ d = [48] ∨ d = [49]) := by
      revert h
      cases negI d <;> simp [hn, hd]
     rw [if_neg this] at hq
     refine ⟨n, ⟨by simp, by omega⟩, ⟨_, rfl⟩, ?_⟩
     rintro _ rfl
     refine ⟨d, fun _ => ⟨by simp, by omega⟩, ⟨_, fun _ => rfl⟩, ?_⟩
     intro ed hed
     by_cases hn0 : errI n = 0
     ·have hed := hed ⟨by simp [hn0], rfl⟩
      subst hed
      by_cases hd0 : errI d = 0
      ·rw [if_neg (by simp [hn0, hd0])] at hq
       refine ⟨fun h => by simp [hn0, hd0] at h, fun _ => ⟨fun _ => ?_, fun h => by cases h⟩⟩
       refine ⟨(n, d), ⟨by simp, by simp only; omega, by simp only; omega⟩, ⟨_, rfl⟩, ?_⟩
       rintro _ rfl
       refine ⟨fun h => ?_, fun h => ?_⟩
       ·rw [if_pos (by simpa using h)] at hq
        exact RetR.scal hq rfl (by simp [resV])
       ·rw [if_neg (by simpa using h)] at hq
        exact RetR.scal hq rfl (by simp [resV])
      ·rw [if_pos (.inr hd0)] at hq
       refine ⟨fun _ => RetR.scal hq rfl (by simp [resV]), fun h => by simp [hn0, hd0] at h⟩
     ·rw [if_pos (.inl hn0)] at hq
      refine ⟨fun _ => RetR.scal hq rfl (by simp [resV]), fun h => by simp [hn0] at h⟩
def VJ : Ctr := ctrP true (fun s : List UInt8 => [.str s]) (fun s => s.length < 2 ^ 62) (fun s r => r = if z5 s < s.length then (z5 s : Int) else -1) (fun _ (r : Int) => (.int .i64 r, []))
def SSl (s : List UInt8) (i : Nat) : KV := [(0, .str s), (3, .int .i64 (i : Int))]
theorem Vy : zg Tryz.prog 63 VJ := by
 refine zi (fn := Tryz.f63) (c := Tryz.f63.body.getD .skip) rfl rfl rfl fun s hs O w0 Q hq => ?_
 replace hq := hq _ rfl
 refine zd.run hmix z3 [0, 3] 400 (T := .leaf (.loop (Prod.fst (lps K63 0)) (Prod.snd (lps K63 0)) [(0, .str s), (3, .int .i64 0)] [])) (by kernel_rfl) ?_
 simp only [Tree.holds, ze, inR, lo, hi]
 refine zd.loop (ι := {i : Nat // i ≤ s.length ∧ ∀ j, j < i → s.getD j 0 ≠ 47}) (fun i => SSl s i.1) (fun _ => []) (fun i => s.length - i.1) ⟨0, Nat.zero_le _, fun j hj => by omega⟩ 0 ?_ ?_ (by kernel_rfl)
 ·exact ⟨by simp [SSl], by simp, by kernel_rfl, Nat.zero_le _⟩
 ·rintro ⟨i, hil, hib⟩
  refine zd.run hmix z3 [0, 3] 400 (T := .ite (decide ((↑i : Int) < s.length)) (.side ((0 : Int) ≤ i ∧ (↑i : Int) < s.length) (.ite (decide ((↑(UInt8.toNat (List.getD s (Int.toNat (↑i : Int)) (0 : UInt8))) : Int) = 47)) (.leaf (.ret [.int .i64 i] [])) (.side (inR .i64 ((↑i : Int) + (1 : Int))) (.leaf (.back 0 [(0, .str s), (3, .int .i64 ((↑i : Int) + (1 : Int)))] []))))) (.leaf (.ret [.int .i64 (-1 : Int)] []))) (by kernel_rfl) ?_
  simp only [Tree.holds, ze, inR, lo, hi, Int.toNat_natCast]
  refine ⟨fun hlt => ?_, fun hge => ?_⟩
  ·have hlt : i < s.length := by have := of_decide_eq_true hlt; omega
   refine ⟨by omega, fun _ => ⟨fun h => ?_, fun h => ⟨by omega, fun _ => ?_⟩⟩⟩
   ·have h : s.getD i 0 = 47 := yr (of_decide_eq_true h)
    have e := W8 hlt h hib
    rw [if_pos (by omega), e] at hq
    exact RetR.scal hq rfl (by simp [resV])
   ·have h : s.getD i 0 ≠ 47 := by
     intro h2
     exact of_decide_eq_false h (by rw [h2]; rfl)
    rw [if_pos trivial]
    refine ⟨⟨i + 1, hlt, fun j hj => ?_⟩, by show s.length - (i + 1) < s.length - i; omega, by simp [SSl], by simp, by kernel_rfl, Nat.zero_le _⟩
    rcases Nat.lt_or_ge j i with h1 | h1
    ·exact hib j h1
    ·have : j = i := by omega
     rw [this]; exact h
  ·have hge : i = s.length := by have := of_decide_eq_false hge; omega
   subst hge
   have e := Ze hib
   rw [if_neg (by omega)] at hq
   exact RetR.scal hq rfl (by simp [resV])
def ZJ : Ctr := ctrP true (fun s : List UInt8 => [.str s]) (fun s => s.length < 2 ^ 62) (fun s r => r = ((cutR s).1, if (cutR s).2.2 then (cutR s).2.1 else [49])) (fun _ r => (.tup [.str r.1, .str r.2], []))
noncomputable def GQ1 : Nat → Option Ctr := fun f => if f = 63 then some (VJ) else none
theorem zea : ∀ g c, GQ1 g = some c → zg Tryz.prog g c := okIf Vy (zp)
theorem ZK : zg Tryz.prog 61 ZJ := by
 refine zi (fn := Tryz.f61) (c := Tryz.f61.body.getD .skip) rfl rfl rfl fun s hs O w0 Q hq => ?_
 replace hq := hq _ rfl
 refine zd.run hmix zea [] 400 (T := .ex (fun (x : List UInt8) => eqL [AV.str s] [AV.str x] ∧ x.length < 4611686018427387904) fun n => .all (fun (r : Int) => r = if z5 n < n.length then (↑(z5 n) : Int) else (-1 : Int)) fun n => .ite (decide (n < 0)) (.leaf (.ret [.str s, .str (Array.toList #[(49 : UInt8)])] [])) (.side ((0 : Int) ≤ n ∧ n ≤ (↑s.length : Int)) (.side (inR .i64 (n + (1 : Int))) (.side ((0 : Int) ≤ n + (1 : Int) ∧ n + (1 : Int) ≤ s.length) (.leaf (.ret [.str (List.drop 0 (List.take (Int.toNat n) s)), .str (List.drop (Int.toNat (n + (1 : Int))) (List.take s.length s))] [])))))) (by kernel_rfl) ?_
 simp only [Tree.holds, ze, inR, lo, hi]
 refine ⟨s, ⟨by simp, hs⟩, ⟨_, rfl⟩, ?_⟩
 rintro _ rfl
 by_cases h : z5 s < s.length
 ·simp only [if_pos h]
  rw [uK h] at hq
  refine ⟨fun hn => ?_, fun hn => ?_⟩
  ·have := of_decide_eq_true hn; omega
  ·refine ⟨by omega, fun _ => ⟨by omega, fun _ => ⟨by omega, fun _ => ?_⟩⟩⟩
   exact RetR.scal hq rfl (by simp [resV])
 ·simp only [if_neg h]
  rw [J2 h] at hq
  refine ⟨fun hn => RetR.scal hq rfl (by simp [resV]), fun hn => ?_⟩
  have := of_decide_eq_false hn; omega
def xc : Ctr := ctrP true (fun s : List UInt8 => [.str s]) (fun s => s.length < 2 ^ 40) (fun s r => r = errR s) (fun _ (r : Int) => (.int .i64 r, []))
noncomputable def GQ2 : Nat → Option Ctr := fun f => if f = 63 then some (VJ) else if f = 61 then some (ZJ) else if f = 62 then some (vA) else if f = 64 then some (zad) else none
theorem zen : ∀ g c, GQ2 g = some c → zg Tryz.prog g c := okIf Vy (okIf ZK (okIf vS (okIf Xt (zp))))
theorem k8 : zg Tryz.prog 41 xc := by
 refine zi (fn := Tryz.f41) (c := Tryz.f41.body.getD .skip) rfl rfl rfl fun s hs O w0 Q hq => ?_
 replace hq := hq _ rfl
 refine zd.run hmix zen [] 400 (T := .ex (fun (x : List UInt8) => eqL [AV.str s] [AV.str x] ∧ x.length < 4611686018427387904) fun n => .all (fun (r : List UInt8 × List UInt8) => r = (Prod.fst (cutR n), if Prod.snd (Prod.snd (cutR n)) = true then Prod.fst (Prod.snd (cutR n)) else [(49 : UInt8)])) fun n => .ex (fun (x : List UInt8) => eqL [AV.str n.1] [AV.str x] ∧ x.length < 1099511627776) fun n_1 => .all (fun (r : List Nat × Bool × Bool) => r = digR n_1) fun n_2 => .ex (fun (x : List UInt8) => eqL [AV.str n.2] [AV.str x] ∧ x.length < 1099511627776) fun n_3 => .all (fun (r : List Nat × Bool × Bool) => r = digR n_3) fun n_4 => .ex (fun (x : List UInt8) => (bif bif bif !Prod.snd n_2.2 then true else !Prod.snd n_4.2 then true else n_4.2.1 then true else decide (n.2 = Array.toList #[(48 : UInt8)])) = false → eqL [AV.str s] [AV.str x] ∧ x.length < 4611686018427387904) fun n_5 => .all (fun (x : Int) => (bif bif bif !Prod.snd n_2.2 then true else !Prod.snd n_4.2 then true else n_4.2.1 then true else decide (n.2 = Array.toList #[(48 : UInt8)])) = false → x = if z5 n_5 < n_5.length then (↑(z5 n_5) : Int) else (-1 : Int)) fun n_6 => .ite (bif bif bif bif !Prod.snd n_2.2 then true else !Prod.snd n_4.2 then true else n_4.2.1 then true else decide (n.2 = Array.toList #[(48 : UInt8)]) then true else bif decide ((0 : Int) ≤ n_6) then decide (n.2 = Array.toList #[(49 : UInt8)]) else false) (.leaf (.ret [.int .i64 12] [])) (.ite (bif decide ((1000 : Int) < n_2.1.length) then true else decide ((1000 : Int) < n_4.1.length)) (.leaf (.ret [.int .i64 14] [])) (.ex (fun (x : List UInt8 × List UInt8) => eqL [AV.str n.1, AV.str n.2] [AV.str x.1, AV.str x.2] ∧ x.1.length < 1099511627776 ∧ x.2.length < 1099511627776) fun n => .all (fun (r : List UInt8 × Int) => r = gcdR n.1 n.2) fun n => .ex (fun (x : List UInt8) => eqL [AV.str s] [AV.str x] ∧ x.length < 4611686018427387904) fun n_7 => .all (fun (r : Int) => r = if z5 n_7 < n_7.length then (↑(z5 n_7) : Int) else (-1 : Int)) fun n_8 => .ite (bif decide ((0 : Int) ≤ n_8) then !decide (n.1 = Array.toList #[(49 : UInt8)]) else false) (.leaf (.ret [.int .i64 12] [])) (.leaf (.ret [.int .i64 0] []))))) (by kernel_rfl) ?_
 simp only [Tree.holds, ze, inR, lo, hi]
 refine ⟨s, ⟨by simp, by omega⟩, ⟨_, rfl⟩, ?_⟩
 rintro _ rfl
 have hlen := uP s
 have hfl := zbq s
 have hno : (cutR s).2.2 = false → (cutR s).1 = s := by
  intro h
  unfold cutR at h ⊢
  split at h
  ·cases h
  ·rename_i hn; rw [if_neg hn]
 simp only [errR] at hq
 generalize cutR s = c at hq hlen hfl hno ⊢
 obtain ⟨n, d, f⟩ := c
 simp only at hq hlen hfl hno ⊢
 obtain ⟨e, he⟩ : ∃ e, (if f = true then d else [49]) = e := ⟨_, rfl⟩
 have hel : e.length < 1099511627776 := by
  rw [← he]; split
  ·omega
  ·simp
 simp only [he]
 refine ⟨n, ⟨by simp, by omega⟩, ⟨_, rfl⟩, ?_⟩
 rintro _ rfl
 refine ⟨e, ⟨by simp, by omega⟩, ⟨_, rfl⟩, ?_⟩
 rintro _ rfl
 refine ⟨s, fun _ => ⟨by simp, by omega⟩, ⟨_, fun _ => rfl⟩, ?_⟩
 intro sv hsv
 rcases Zp n with ⟨hn1, hn2⟩ | ⟨hn1, ln, hn2, hn3⟩
 ·have hq : Q (.int .i64 12, []) := by
   cases f with
   | false => rw [if_neg (by decide), ← hno rfl, hn1] at hq; exact hq
   | true => rw [if_pos rfl, if_pos (.inl hn1)] at hq; exact hq
  simp only [hn2]
  exact ⟨fun _ => RetR.scal hq rfl (by simp [resV]), fun h => by simp at h⟩
 rcases Zp e with ⟨he1, he2⟩ | ⟨he1, le, he2, he3⟩
 ·have hq : Q (.int .i64 12, []) := by
   cases f with
   | false => rw [if_neg (by decide)] at he; subst he; exact absurd he1 (by decide)
   | true =>
    rw [if_pos rfl] at he; subst he
    rw [if_pos rfl, if_pos (.inr (.inl he1))] at hq; exact hq
  simp only [hn2, he2]
  exact ⟨fun _ => RetR.scal hq rfl (by simp [resV]), fun h => by simp at h⟩
 simp only [hn2, he2, Bool.not_true, cond_false] at hsv ⊢
 cases f with
 | false =>
  rw [if_neg (by decide)] at he hq
  subst he
  have hnn : negI [49] = false := by decide
  have h49 : errI [49] = 0 := by decide
  have hs := hno rfl
  subst hs
  simp only [hnn, cond_false] at hsv ⊢
  have hsv := hsv (by decide)
  rw [← hsv] at hfl
  rw [← hfl, hn3, he3, h49]
  refine ⟨fun h => by simp at h, fun _ => ⟨fun h => ?_, fun h => ?_⟩⟩
  ·rcases jR n with e | e | e
   ·rw [e] at h; simp at h
   ·exact absurd e hn1
   ·rw [e] at hq; exact RetR.scal hq rfl (by simp [resV])
  ·have h0 : errI n = 0 := by
    rcases jR n with e | e | e
    ·exact e
    ·exact absurd e hn1
    ·rw [e] at h; simp at h
   rw [h0] at hq
   refine ⟨(n, [49]), ⟨by simp, by simp only; omega, by simp⟩, ⟨_, rfl⟩, ?_⟩
   rintro _ rfl
   refine ⟨n, ⟨by simp, by omega⟩, ⟨_, rfl⟩, ?_⟩
   rintro _ rfl
   rw [← hsv, ← hfl]
   refine ⟨fun h => by simp at h, fun _ => RetR.scal hq rfl (by simp [resV])⟩
 | true =>
  rw [if_pos rfl] at he hq
  subst he
  cases hng : negI d with
  | true =>
   rw [if_pos (.inr (.inr (.inl hng)))] at hq
   exact ⟨fun _ => RetR.scal hq rfl (by simp [resV]), fun h => by simp at h⟩
  | false =>
   simp only [hng, cond_false] at hsv ⊢
   by_cases h48 : d = [48]
   ·rw [if_pos (.inr (.inr (.inr (.inl h48))))] at hq
    rw [decide_eq_true h48]
    exact ⟨fun _ => RetR.scal hq rfl (by simp [resV]), fun h => by simp at h⟩
   ·rw [decide_eq_false h48] at hsv ⊢
    have hsv := hsv rfl
    rw [← hsv] at hfl
    rw [← hfl]
    simp only [cond_false, cond_true]
    by_cases h49 : d = [49]
    ·rw [if_pos (.inr (.inr (.inr (.inr h49))))] at hq
     rw [decide_eq_true h49]
     exact ⟨fun _ => RetR.scal hq rfl (by simp [resV]), fun h => by simp at h⟩
    ·rw [decide_eq_false h49]
     rw [if_neg (by simp [hn1, he1, hng, h48, h49])] at hq
     refine ⟨fun h => (by cases h), fun _ => ?_⟩
     rw [hn3, he3]
     by_cases hn0 : errI n = 0
     ·by_cases hd0 : errI d = 0
      ·rw [if_neg (by simp [hn0, hd0])] at hq
       refine ⟨fun h => by simp [hn0, hd0] at h, fun _ => ?_⟩
       refine ⟨(n, d), ⟨by simp, by simp only; omega, by simp only; omega⟩, ⟨_, rfl⟩, ?_⟩
       rintro _ rfl
       refine ⟨s, ⟨by simp, by omega⟩, ⟨_, rfl⟩, ?_⟩
       rintro _ rfl
       rw [← hsv, ← hfl]
       refine ⟨fun h => ?_, fun h => ?_⟩
       ·rw [if_pos (by simpa using h)] at hq
        exact RetR.scal hq rfl (by simp [resV])
       ·rw [if_neg (by simpa using h)] at hq
        exact RetR.scal hq rfl (by simp [resV])
      ·rw [if_pos (.inr hd0)] at hq
       refine ⟨fun _ => RetR.scal hq rfl (by simp [resV]), fun h => by simp [hn0, hd0] at h⟩
     ·rw [if_pos (.inl hn0)] at hq
      refine ⟨fun _ => RetR.scal hq rfl (by simp [resV]), fun h => by simp [hn0] at h⟩
end Go.Proofs.Tryz
end

/- Names and days. -/
section
set_option maxRecDepth 100000
open Go Go.Sx Go.Proofs Go.Nov
namespace Go.Proofs.Tryz
attribute [local simp] eqKV eqA eqA0 eqH eqB eqL eqL0
end Go.Proofs.Tryz
end

/- Integers as they are written: sums, products, comparisons. -/
section
namespace Go.Nov
def sumS (m : Bool) (x : Nat) (n : Bool) (y : Nat) : Bool × Nat := if m = n then (m, x + y) else if y ≤ x then (m, x - y) else (n, y - x)
def addI (s t : List UInt8) : List UInt8 × Int := if zq s t = 0 then wr (sumS (negI s) (numI s) (negI t) (numI t)).1 (sumS (negI s) (numI s) (negI t) (numI t)).2 else ([], zq s t)
def subI (s t : List UInt8) : List UInt8 × Int := if zq s t = 0 then wr (sumS (negI s) (numI s) (!negI t) (numI t)).1 (sumS (negI s) (numI s) (!negI t) (numI t)).2 else ([], zq s t)
def mulI (s t : List UInt8) : List UInt8 × Int := if zq s t = 0 then wr (negI s != negI t) (numI s * numI t) else ([], zq s t)
def cmpZ (m : Bool) (x : Nat) (n : Bool) (y : Nat) : Int := if m = true ∧ n = false then -1 else if n = true ∧ m = false then 1 else if m = true then cmpN y x else cmpN x y
def zg1 (s t : List UInt8) : Int × Int := if zq s t = 0 then (cmpZ (negI s) (numI s) (negI t) (numI t), 0) else (0, zq s t)
theorem uR {d : Nat} (h : d < 10) : (byt d).toNat = 48 + d := by
 unfold byt
 rw [UInt8.toNat_ofNat']
 omega
theorem yf {x : Nat} (h : x ≠ 0) : txt x = ((dec x).map byt).reverse := if_neg h
theorem xz {x : Nat} (h : x ≠ 0) : (txt x).length = (dec x).length := by rw [yf h]; simp
theorem Ya {x : Nat} (h : x ≠ 0) : allD (txt x) := by
 intro c hc
 rw [yf h] at hc
 simp only [List.mem_reverse, List.mem_map] at hc
 obtain ⟨d, hd, rfl⟩ := hc
 have : d < 10 := Ten.zl x d hd
 rw [uR this]
 omega
theorem zeg {x : Nat} (h : x ≠ 0) : dg (txt x) = dec x := by
 rw [yf h, dg, List.map_reverse, List.reverse_reverse, List.map_map]
 conv => rhs; rw [← List.map_id (dec x)]
 refine List.map_congr_left fun d hd => ?_
 have : d < 10 := Ten.zl x d hd
 simp only [Function.comp, uR this, id]
 omega
theorem zca {x : Nat} (h : x ≠ 0) : numD (txt x) = x := by
 rw [← Jy, zeg h]
 exact Ten.zn x
theorem yU {x : Nat} (h : x ≠ 0) : (txt x).getD 0 0 ≠ 48 ∧ (txt x).getD 0 0 ≠ 45 := by
 have hl := JE h
 have ht := XI hl
 have hlt := dec_lt x ((dec x).length - 1)
 have e : (txt x).getD 0 0 = byt ((dec x).getD ((dec x).length - 1) 0) := by
  rw [yf h]
  simp only [List.getD_eq_getElem?_getD]
  rw [List.getElem?_reverse (by simpa using hl)]
  simp [List.getElem?_eq_getElem (show (dec x).length - 1 < (dec x).length by omega)]
 rw [e]
 have hb := uR hlt
 constructor
 ·intro h2
  rw [h2] at hb
  have : (48 : UInt8).toNat = 48 := rfl
  omega
 ·intro h2
  rw [h2] at hb
  have : (45 : UInt8).toNat = 45 := rfl
  omega
theorem VW {x : Nat} (h : x ≠ 0) : txt x ≠ [] := by
 intro h2
 have := xz h
 rw [h2] at this
 have := JE h
 simp at *; omega
theorem Jj {x : Nat} (h : x ≠ 0) (neg : Bool) : parse (sgn neg (txt x)) = (neg, txt x) := by
 cases neg with
 | true => rfl
 | false =>
  simp only [sgn, Bool.false_eq_true, if_false]
  have h1 := (yU h).2
  cases ht : txt x with
  | nil => exact absurd ht (VW h)
  | cons c b =>
   rw [ht] at h1
   have : c ≠ 45 := h1
   simp [parse, this]
theorem Wr {x : Nat} (h : x ≠ 0) (neg : Bool) : qh neg (txt x) = true := by
 have h1 := (yU h).1
 have h2 : txt x ≠ [48] := by
  intro h2
  rw [h2] at h1
  exact h1 rfl
 have h3 := VW h
 have h4 : (txt x).all isD = true := XN.2 (Ya h)
 simp only [List.getD_eq_getElem?_getD] at h1
 simp [qh, h3, h2, h1, h4]
theorem uz {neg : Bool} {x : Nat} (h : (wr neg x).2 = 0) : errI (wr neg x).1 = 0 ∧ numI (wr neg x).1 = x ∧ negI (wr neg x).1 = (neg && decide (x ≠ 0)) := by
 unfold wr at h ⊢
 by_cases h0 : x = 0
 ·subst h0
  simp only [if_true]
  refine ⟨rfl, rfl, ?_⟩
  simp [negI, parse]
 ·rw [if_neg h0] at h ⊢
  by_cases h1 : 1000 < (dec x).length
  ·rw [if_pos h1] at h; cases h
  ·rw [if_neg h1]
   simp only [errI, numI, negI, Jj h0, Wr h0, if_true]
   rw [xz h0, if_neg h1]
   exact ⟨rfl, zca h0, by simp [h0]⟩
theorem JR (neg : Bool) (x : Nat) : (wr neg x).2 = 0 ∨ wr neg x = ([], 14) := by
 unfold wr
 split
 ·exact .inl rfl
 ·split
  ·exact .inr rfl
  ·exact .inl rfl
theorem XT (neg : Bool) (b : List UInt8) : (sgn neg b).length ≤ b.length + 1 := by
 unfold sgn; split <;> simp
theorem jP (neg : Bool) (x : Nat) : (wr neg x).1.length ≤ 1001 := by
 unfold wr
 split
 ·simp
 ·rename_i h0
  split
  ·simp
  ·rename_i h1
   have := XT neg (txt x)
   rw [xz h0] at this
   simp only
   omega
theorem ZS (s t : List UInt8) : (addI s t).1.length ≤ 1001 := by
 unfold addI
 split
 ·exact jP _ _
 ·simp
theorem zau (s t : List UInt8) : (subI s t).1.length ≤ 1001 := by
 unfold subI
 split
 ·exact jP _ _
 ·simp
theorem qH (s t : List UInt8) : (mulI s t).1.length ≤ 1001 := by
 unfold mulI
 split
 ·exact jP _ _
 ·simp
theorem XU (b : Bool) (x : Nat) : wr (b && decide (0 < x)) x = wr b x := by
 unfold wr
 by_cases h : x = 0
 ·rw [if_pos h, if_pos h]
 ·rw [if_neg h, if_neg h]
  have : decide (0 < x) = true := decide_eq_true (Nat.pos_of_ne_zero h)
  rw [this, Bool.and_true]
theorem QU (m : Bool) (x : Nat) (n : Bool) : sumS m x n 0 = (m, x) := by
 unfold sumS
 split
 ·rfl
 ·simp
theorem YJ (m : Bool) (x : Nat) (n : Bool) (y : Nat) : sumS m x (n && decide (0 < y)) y = sumS m x n y := by
 by_cases h : y = 0
 ·subst h; rw [QU, QU]
 ·have : decide (0 < y) = true := decide_eq_true (Nat.pos_of_ne_zero h)
  rw [this, Bool.and_true]
theorem XK (m : Bool) (x : Nat) (n : Bool) (y : Nat) : (sumS m x n y).2 ≤ x + y := by
 unfold sumS
 split
 ·exact Nat.le_refl _
 ·split
  ·simp only; omega
  ·simp only; omega
end Go.Nov
end

/- The integers: addition of magnitudes. -/
section
set_option maxRecDepth 100000
open Go Go.Sx Go.Proofs Go.Nov
namespace Go.Proofs.Tryz
attribute [local simp] eqKV eqA eqA0 eqH eqB eqL eqL0
noncomputable def K80 : List Go.Sx.Item := [.code (Tryz.f80.body.getD .skip)]
def X8 : Ctr := ctr2 true (fun x y => (canon x).length < 100000 ∧ (canon y).length < 100000) (fun x y d => d = x + y) (fun _ _ d => (magS d, []))
def SPl (x y : Nat) (o : List Nat) (c i : Nat) : KV := [(1, magS y), (5, .osl 0 1 0 o.length), (6, .int .u32 (c : Int)), (21, magS x), (22, .int .i64 ((canon x).length : Int)), (23, .int .i64 (i : Int))]
structure IPl (x y : Nat) where
 o : List Nat
 c : Nat
 i : Nat
 len : o.length = i
 le : i ≤ (canon x).length
 dg : dig o
 c1 : c ≤ 1
 eq : val o + B ^ i * c = val ((canon x).take i) + val ((canon y).take i)
theorem zee {x y o c i d c' : Nat} {l m : List Nat} (h : o + B ^ i * c = val (l.take i) + val (m.take i)) (he : d + B * c' = l.getD i 0 + m.getD i 0 + c) : o + B ^ i * d + B ^ (i + 1) * c' = val (l.take (i + 1)) + val (m.take (i + 1)) := by
 rw [zm, zm, Nat.pow_succ]
 have := congrArg (B ^ i * ·) he
 simp only [Nat.mul_add] at this
 rw [Nat.mul_assoc]
 omega
theorem RetR.zfw {ctr : Ctr} {Q : AV × Heap → Prop} {h : Heap} {i m n : Nat} {k : IntKind} {l : List Nat} {G : Nat → Nat → AV} (hq : Q (natS k l, [])) (hb : h[i]? = some (.arr m 1 G)) (hn : n ≤ m) (hl : l.length = n) (hG : ∀ j, j < n → G j 0 = .int k ((l.getD j 0 : Nat) : Int)) : RetR ctr 0 Q [.osl i 1 0 n] h := by
 refine RetR.out0 hq (fun _ => ?_) ?_
 ·refine Qj hb (by omega) fun j o hj ho => ?_
  have : o = 0 := by omega
  subst this
  simp only [zj, Nat.zero_add, hG j hj, zX]
 ·have e : exp2 h [] (resV [.osl i 1 0 n]) = exp0 h [] (.osl i 1 0 n) := rfl
  rw [e, kM hb (by omega), Xd]
  simp only [eqA2, natS]
  refine ⟨hl.symm, rfl, fun j o hj ho => ?_⟩
  have : o = 0 := by omega
  subst this
  rw [hG j hj]; rfl
theorem WR {O : Nat → Prop} {w0 : World} {Q : AV × Heap → Prop} (x y : Nat) (hx : (canon x).length < 100000) (hlen : (canon y).length ≤ (canon x).length) (hq : Q (magS (x + y), [])) (kv : KV) (h : Heap) (hle : LeK 0 Tryz.f80.ntmps kv h (SPl x y [] 0 0) [.arr 0 1 (natG .u32 [])]) :
  zd Tryz.prog Tryz.f80 O 0 w0 [] (fun _ _ _ => False) (RetR X8 0 Q) (.code (.loop (lps K80 0).1) :: (lps K80 0).2) (mk Tryz.f80.ntmps kv h) := by
 refine zd.loop (ι := IPl x y) (fun s => SPl x y s.o s.c s.i) (fun s => [.arr s.o.length 1 (natG .u32 s.o)]) (fun s => (canon x).length - s.i) ⟨[], 0, 0, rfl, Nat.zero_le _, by simp [dig], by omega, by simp [val]⟩ 0 hle ?_ (by kernel_rfl)
 rintro ⟨o, c, i, ho, hle, hd, hc, he⟩
 subst ho
 have hB : B = 1000000000 := rfl
 refine zd.run hmix yi [1, 5, 6, 21, 22, 23] 400 (T := .ite (decide ((↑o.length : Int) < (↑(canon x).length : Int))) (.side ((0 : Int) ≤ o.length ∧ (↑o.length : Int) < (↑(canon x).length : Int)) (.side (inR .u32 ((↑(List.getD (canon x) (Int.toNat (↑o.length : Int)) 0) : Int) + c)) (.ite (decide ((↑o.length : Int) < (↑(canon y).length : Int))) (.side ((0 : Int) ≤ o.length ∧ (↑o.length : Int) < (↑(canon y).length : Int)) (.side (inR .u32 ((↑(List.getD (canon x) (Int.toNat (↑o.length : Int)) 0) : Int) + c + (↑(List.getD (canon y) (Int.toNat (↑o.length : Int)) 0) : Int))) (.side ((1000000000 : Int) ≠ 0 ∧ inR .u32 (Int.tdiv ((↑(List.getD (canon x) (Int.toNat (↑o.length : Int)) 0) : Int) + c + (↑(List.getD (canon y) (Int.toNat (↑o.length : Int)) 0) : Int)) (1000000000 : Int))) (.side ((1000000000 : Int) ≠ 0) (.side (0 = 0 ∧ o.length ≤ o.length ∧ (o.length + 1) * 4 ≤ 140737488355328) (.side (inR .i64 ((↑o.length : Int) + (1 : Int))) (.leaf (.back 0 [(1, .sl (canon y).length 1 (natG .u32 (canon y))), (5, .osl 0 1 0 (o.length + 1)), (6, .int .u32 (Int.tdiv ((↑(List.getD (canon x) (Int.toNat (↑o.length : Int)) 0) : Int) + c + (↑(List.getD (canon y) (Int.toNat (↑o.length : Int)) 0) : Int)) (1000000000 : Int))), (21, .sl (canon x).length 1 (natG .u32 (canon x))), (22, .int .i64 (↑(canon x).length : Int)), (23, .int .i64 ((↑o.length : Int) + (1 : Int)))] [.arr (o.length + 1) 1 (appG o.length (natG .u32 o) (zj (zf 1 [.int .u32 (Int.tmod ((↑(List.getD (canon x) (Int.toNat (↑o.length : Int)) 0) : Int) + c + (↑(List.getD (canon y) (Int.toNat (↑o.length : Int)) 0) : Int)) (1000000000 : Int))]) 0)), .arr 1 1 (zf 1 [.int .u32 (Int.tmod ((↑(List.getD (canon x) (Int.toNat (↑o.length : Int)) 0) : Int) + c + (↑(List.getD (canon y) (Int.toNat (↑o.length : Int)) 0) : Int)) (1000000000 : Int))])])))))))) (.side ((1000000000 : Int) ≠ 0 ∧ inR .u32 (Int.tdiv ((↑(List.getD (canon x) (Int.toNat (↑o.length : Int)) 0) : Int) + c) (1000000000 : Int))) (.side ((1000000000 : Int) ≠ 0) (.side (0 = 0 ∧ o.length ≤ o.length ∧ (o.length + 1) * 4 ≤ 140737488355328) (.side (inR .i64 ((↑o.length : Int) + (1 : Int))) (.leaf (.back 0 [(1, .sl (canon y).length 1 (natG .u32 (canon y))), (5, .osl 0 1 0 (o.length + 1)), (6, .int .u32 (Int.tdiv ((↑(List.getD (canon x) (Int.toNat (↑o.length : Int)) 0) : Int) + c) (1000000000 : Int))), (21, .sl (canon x).length 1 (natG .u32 (canon x))), (22, .int .i64 (↑(canon x).length : Int)), (23, .int .i64 ((↑o.length : Int) + (1 : Int)))] [.arr (o.length + 1) 1 (appG o.length (natG .u32 o) (zj (zf 1 [.int .u32 (Int.tmod ((↑(List.getD (canon x) (Int.toNat (↑o.length : Int)) 0) : Int) + c) (1000000000 : Int))]) 0)), .arr 1 1 (zf 1 [.int .u32 (Int.tmod ((↑(List.getD (canon x) (Int.toNat (↑o.length : Int)) 0) : Int) + c) (1000000000 : Int))])]))))))))) (.side (0 = 0 ∧ o.length ≤ o.length ∧ (o.length + 1) * 4 ≤ 140737488355328) (.ex (fun (u : List Nat) => u.length = o.length + 1 ∧ 0 + (o.length + 1) ≤ o.length + 1 ∧ o.length + 1 < 4611686018427387904 ∧ eqG (o.length + 1) 1 (appG o.length (natG .u32 o) (zj (zf 1 [AV.int .u32 c]) 0)) (natG .u32 u) ∧ dig (List.take (o.length + 1) (List.drop 0 u))) fun n => .all (fun (x : Nat) => x = val (List.take (o.length + 1) (List.drop 0 n))) fun n => .leaf (.ret [.osl 0 1 0 (canon n).length] [.arr (o.length + 1) 1 (appG o.length (natG .u32 o) (zj (zf 1 [.int .u32 c]) 0)), .arr 1 1 (zf 1 [.int .u32 c])])))) (by kernel_rfl) ?_
 simp only [Tree.holds, ze, inR, lo, hi, Int.toNat_natCast, xk]
 have ha := z7 (zl x) o.length
 have hb := z7 (zl y) o.length
 have hnext : ∀ d c' : Nat, d < B → c' ≤ 1 → o.length < (canon x).length → d + B * c' = (canon x).getD o.length 0 + (canon y).getD o.length 0 + c →
   ∃ s : IPl x y, s.o = o ++ [d] ∧ s.c = c' ∧ s.i = o.length + 1 := fun d c' h1 h2 h3 h4 =>
  ⟨⟨o ++ [d], c', o.length + 1, by simp, h3, zY.2 ⟨hd, by simp [dig, h1]⟩, h2, by rw [Qd]; exact zee (x := x) (y := y) he h4⟩, rfl, rfl, rfl⟩
 have hdiv : ∀ v : Nat, (v : Int).tdiv 1000000000 = ((v / B : Nat) : Int) ∧ (v : Int).tmod 1000000000 = ((v % B : Nat) : Int) := fun v => ⟨rfl, rfl⟩
 have hq2 : ∀ v : Nat, v < 2 * B → v / B ≤ 1 ∧ v % B < B ∧ v % B + B * (v / B) = v := fun v hv => ⟨by have := Nat.div_lt_of_lt_mul (show v < B * 2 by omega); omega, Nat.mod_lt _ (by omega), Nat.mod_add_div _ _⟩
 refine ⟨fun hlt => ?_, fun hge => ?_⟩
 ·have hlt : o.length < (canon x).length := by have := of_decide_eq_true hlt; omega
  refine ⟨by omega, fun _ => ⟨by omega, fun _ => ⟨fun hb2 => ?_, fun hb2 => ?_⟩⟩⟩
  ·have hb2 : o.length < (canon y).length := by have := of_decide_eq_true hb2; omega
   refine ⟨by omega, fun _ => ⟨by omega, fun _ => ?_⟩⟩
   obtain ⟨v, hv⟩ : ∃ v, (canon x).getD o.length 0 + c + (canon y).getD o.length 0 = v := ⟨_, rfl⟩
   have ev : (((canon x).getD o.length 0 : Nat) : Int) + (c : Int) + (((canon y).getD o.length 0 : Nat) : Int) = (v : Int) := by omega
   rw [ev, (hdiv v).1, (hdiv v).2]
   obtain ⟨g1, g2, g3⟩ := hq2 v (by omega)
   generalize v / B = q at g1 g3 ⊢
   generalize v % B = r at g2 g3 ⊢
   refine ⟨⟨by decide, by omega, by omega⟩, fun _ => ⟨by decide, fun _ => ⟨⟨trivial, Nat.le_refl _, by omega⟩, fun _ => ⟨by omega, fun _ => ?_⟩⟩⟩⟩
   obtain ⟨s, h1, h2, h3⟩ := hnext r q g2 g1 hlt (by omega)
   rw [if_pos trivial]
   exact ⟨s, by show _ - s.i < _; omega, by simp [SPl, h1, h2, h3, magS, natS, zc], by rw [h1]; exact qG rfl, by kernel_rfl, Nat.zero_le _⟩
  ·have hb2 : (canon y).length ≤ o.length := by have := of_decide_eq_false hb2; omega
   have hb0 : (canon y).getD o.length 0 = 0 := by simp [List.getD, List.getElem?_eq_none hb2]
   obtain ⟨v, hv⟩ : ∃ v, (canon x).getD o.length 0 + c = v := ⟨_, rfl⟩
   have ev : (((canon x).getD o.length 0 : Nat) : Int) + (c : Int) = (v : Int) := by omega
   rw [ev, (hdiv v).1, (hdiv v).2]
   obtain ⟨g1, g2, g3⟩ := hq2 v (by omega)
   generalize v / B = q at g1 g3 ⊢
   generalize v % B = r at g2 g3 ⊢
   refine ⟨⟨by decide, by omega, by omega⟩, fun _ => ⟨by decide, fun _ => ⟨⟨trivial, Nat.le_refl _, by omega⟩, fun _ => ⟨by omega, fun _ => ?_⟩⟩⟩⟩
   obtain ⟨s, h1, h2, h3⟩ := hnext r q g2 g1 hlt (by omega)
   rw [if_pos trivial]
   exact ⟨s, by show _ - s.i < _; omega, by simp [SPl, h1, h2, h3, magS, natS, zc], by rw [h1]; exact qG rfl, by kernel_rfl, Nat.zero_le _⟩
 ·have hge : o.length = (canon x).length := by have := of_decide_eq_false hge; omega
  have hv : val (o ++ [c]) = x + y := by
   rw [Qd]
   rw [hge, List.take_length, List.take_of_length_le hlen, zn, zn] at he
   rw [hge]; exact he
  have hdo : dig (o ++ [c]) := zY.2 ⟨hd, by simp [dig]; omega⟩
  have hpush : eqG (o.length + 1) 1 (appG o.length (natG .u32 o) (zj (zf 1 [.int .u32 (c : Int)]) 0)) (natG .u32 (o ++ [c])) := by
   have := yu (k := .u32) (l := o) (v := (c : Int)) (by omega)
   simpa using this
  have hall : List.take (o.length + 1) (List.drop 0 (o ++ [c])) = o ++ [c] := by rw [List.drop_zero]; exact List.take_of_length_le (by simp)
  refine ⟨⟨trivial, Nat.le_refl _, by omega⟩, fun _ => ⟨o ++ [c], ⟨by simp, by omega, by omega, hpush, by rw [hall]; exact hdo⟩, ⟨_, rfl⟩, ?_⟩⟩
  intro X hX
  have hX : X = x + y := by rw [hX, hall, hv]
  subst hX
  have htr : q9 (o ++ [c]) = canon (x + y) := by rw [zK hdo, hv]
  have htl : (canon (x + y)).length = tlen (o ++ [c]) := by rw [← htr, q9, List.length_take]; have := zU (o ++ [c]); omega
  rw [htl]
  have hle2 := zU (o ++ [c])
  have hln : (o ++ [c]).length = o.length + 1 := by simp
  refine RetR.zfw (l := canon (x + y)) (k := .u32) hq rfl (by omega) htl fun j hj => ?_
  have := hpush j 0 (by omega) (by omega)
  rw [this, ← htr]
  simp only [natG, q9]
  rw [yv hj]
theorem XX : zg Tryz.prog 80 X8 := by
 refine yD (fn := Tryz.f80) (c := Tryz.f80.body.getD .skip) rfl rfl rfl fun x y hp O w0 Q hq => ?_
 replace hq := hq _ rfl
 obtain ⟨hx, hy⟩ := hp
 refine zd.run hmix yi [1, 5, 6, 21, 22, 23] 400 (T := .ite (decide ((↑(canon x).length : Int) < (↑(canon y).length : Int))) (.side (inR .i64 ((↑(canon y).length : Int) + (1 : Int))) (.side ((0 : Int) ≤ 0 ∧ (0 : Int) ≤ (↑(canon y).length : Int) + (1 : Int) ∧ inR .i64 ((↑(canon y).length : Int) + (1 : Int)) ∧ Int.toNat ((↑(canon y).length : Int) + (1 : Int)) * 4 ≤ 140737488355328) (.leaf (.loop (Prod.fst (lps K80 0)) (Prod.snd (lps K80 0)) [(1, .sl (canon x).length 1 (natG .u32 (canon x))), (5, .osl 0 1 0 0), (6, .int .u32 0), (21, .sl (canon y).length 1 (natG .u32 (canon y))), (22, .int .i64 (↑(canon y).length : Int)), (23, .int .i64 0)] [.arr 0 1 (w6 [.int .u32 0])])))) (.side (inR .i64 ((↑(canon x).length : Int) + (1 : Int))) (.side ((0 : Int) ≤ 0 ∧ (0 : Int) ≤ (↑(canon x).length : Int) + (1 : Int) ∧ inR .i64 ((↑(canon x).length : Int) + (1 : Int)) ∧ Int.toNat ((↑(canon x).length : Int) + (1 : Int)) * 4 ≤ 140737488355328) (.leaf (.loop (Prod.fst (lps K80 0)) (Prod.snd (lps K80 0)) [(1, .sl (canon y).length 1 (natG .u32 (canon y))), (5, .osl 0 1 0 0), (6, .int .u32 0), (21, .sl (canon x).length 1 (natG .u32 (canon x))), (22, .int .i64 (↑(canon x).length : Int)), (23, .int .i64 0)] [.arr 0 1 (w6 [.int .u32 0])]))))) (by kernel_rfl) ?_
 simp only [Tree.holds, ze, inR, lo, hi]
 refine ⟨fun h => ?_, fun h => ?_⟩
 ·have h : (canon x).length < (canon y).length := by have := of_decide_eq_true h; omega
  refine ⟨by omega, fun _ => ⟨⟨by omega, by omega, by omega, by omega⟩, fun _ => ?_⟩⟩
  rw [Nat.add_comm] at hq
  exact WR y x hy (by omega) hq _ _ ⟨by simp [SPl, magS, natS, zc], by simp [eqG], by kernel_rfl, Nat.zero_le _⟩
 ·have h : (canon y).length ≤ (canon x).length := by have := of_decide_eq_false h; omega
  refine ⟨by omega, fun _ => ⟨⟨by omega, by omega, by omega, by omega⟩, fun _ => ?_⟩⟩
  exact WR x y hx h hq _ _ ⟨by simp [SPl, magS, natS, zc], by simp [eqG], by kernel_rfl, Nat.zero_le _⟩
end Go.Proofs.Tryz
end

/- The integers: sums, products, comparisons. -/
section
set_option maxRecDepth 100000
open Go Go.Sx Go.Proofs Go.Nov
namespace Go.Proofs.Tryz
attribute [local simp] eqKV eqA eqA0 eqH eqB eqL eqL0
def zdv : Ctr := ctrP false (fun p : Bool × Nat => [.bool p.1, magS p.2]) (fun _ => True) (fun p r => r = (p.1 && decide (0 < p.2), p.2)) (fun _ (r : Bool × Nat) => (numV r.1 r.2, []))
theorem Zd {x : Nat} : decide (0 < ((canon x).length : Int)) = decide (0 < x) := by
 by_cases h : x = 0
 ·subst h; simp [canon]
 ·have h1 : 0 < x := Nat.pos_of_ne_zero h
  have h2 : (canon x).length ≠ 0 := fun h2 => h (x3.1 h2)
  rw [decide_eq_true (by omega), decide_eq_true h1]
theorem RetR.numV {ctr : Ctr} {Q : AV × Heap → Prop} {h : Heap} {b : Bool} {x : Nat} (hf : ctr.fresh = false) (hq : Q (numV b x, [])) : RetR ctr 0 Q [.agg [.bool b, magS x]] h := by
 refine RetR.out0 hq (fun h => by rw [hf] at h; cases h) ?_
 simp [resV, exp2, exp1, exp0, ren0, frz1, eqA2, eqL1, eqA, eqL0, eqA0, Tryz.numV, magS, natS, zc]
theorem zcw : zg Tryz.prog 79 zdv := by
 refine zi (fn := Tryz.f79) (c := Tryz.f79.body.getD .skip) rfl rfl rfl fun p hp O w0 Q hq => ?_
 obtain ⟨b, x⟩ := p
 replace hq := hq _ rfl
 refine zd.run hmix z3 [] 400 (T := .leaf (.ret [.agg [.bool (bif b then decide ((0 : Int) < (↑(canon x).length : Int)) else false), .sl (canon x).length 1 (natG .u32 (canon x))]] [.box [.bool (bif b then decide ((0 : Int) < (↑(canon x).length : Int)) else false), .sl (canon x).length 1 (natG .u32 (canon x))]])) (by kernel_rfl) ?_
 simp only [Tree.holds, ze]
 rw [Zd]
 have e : (bif b then decide (0 < x) else false) = (b && decide (0 < x)) := by cases b <;> rfl
 rw [e]
 exact RetR.numV rfl hq
def sumC : Ctr := ctrP false (fun p : (Bool × Nat) × (Bool × Nat) => [numV p.1.1 p.1.2, numV p.2.1 p.2.2]) (fun p => (canon p.1.2).length < 100000 ∧ (canon p.2.2).length < 100000)
 (fun p r => r = ((sumS p.1.1 p.1.2 p.2.1 p.2.2).1 && decide (0 < (sumS p.1.1 p.1.2 p.2.1 p.2.2).2), (sumS p.1.1 p.1.2 p.2.1 p.2.2).2)) (fun _ (r : Bool × Nat) => (numV r.1 r.2, []))
noncomputable def GSu : Nat → Option Ctr := fun f => if f = 79 then some (zdv) else if f = 80 then some (X8) else if f = 81 then some (y6) else if f = 82 then some (JQ) else none
theorem zfj : ∀ g c, GSu g = some c → zg Tryz.prog g c := okIf zcw (okIf XX (okIf xR (okIf Zm (zp))))
theorem zbd : zg Tryz.prog 56 sumC := by
 refine zi (fn := Tryz.f56) (c := Tryz.f56.body.getD .skip) rfl rfl rfl fun p hp O w0 Q hq => ?_
 obtain ⟨⟨m, x⟩, ⟨n, y⟩⟩ := p
 obtain ⟨h1, h2⟩ := hp
 replace hq := hq _ rfl
 simp only at h1 h2 hq
 refine zd.run hmix zfj [] 400 (T := .ite (m == n) (.ex (fun (x_1 : Nat × Nat) => eqL [AV.sl (canon x).length 1 (natG .u32 (canon x)), AV.sl (canon y).length 1 (natG .u32 (canon y))] [AV.sl (canon x_1.1).length 1 (natG .u32 (canon x_1.1)), AV.sl (canon x_1.2).length 1 (natG .u32 (canon x_1.2))] ∧ List.length (canon x_1.1) < 100000 ∧ List.length (canon x_1.2) < 100000) fun n_1 => .all (fun (d : Nat) => d = n_1.1 + n_1.2) fun n_2 => .ex (fun (x : Bool × Nat) => eqL [AV.bool m, AV.sl (canon n_2).length 1 (natG .u32 (canon n_2))] [AV.bool x.1, AV.sl (canon x.2).length 1 (natG .u32 (canon x.2))] ∧ True) fun n_3 => .all (fun (r : Bool × Nat) => r = (n_3.1 && decide (0 < n_3.2), n_3.2)) fun n_4 => .leaf (.ret [.agg [.bool n_4.1, .sl (canon n_4.2).length 1 (natG .u32 (canon n_4.2))]] [.box [.bool m, .sl (canon x).length 1 (natG .u32 (canon x))], .box [.bool n, .sl (canon y).length 1 (natG .u32 (canon y))], .box [.bool n_4.1, .sl (canon n_4.2).length 1 (natG .u32 (canon n_4.2))]])) (.ex (fun (x_1 : Nat × Nat) => eqL [AV.sl (canon x).length 1 (natG .u32 (canon x)), AV.sl (canon y).length 1 (natG .u32 (canon y))] [AV.sl (canon x_1.1).length 1 (natG .u32 (canon x_1.1)), AV.sl (canon x_1.2).length 1 (natG .u32 (canon x_1.2))] ∧ fits x_1.1 ∧ fits x_1.2) fun n_1 => .all (fun (r : Int) => r = cmp3 n_1.1 n_1.2) fun n_2 => .ite (decide ((0 : Int) ≤ n_2)) (.ex (fun (x_1 : Nat × Nat) => eqL [AV.sl (canon x).length 1 (natG .u32 (canon x)), AV.sl (canon y).length 1 (natG .u32 (canon y))] [AV.sl (canon x_1.1).length 1 (natG .u32 (canon x_1.1)), AV.sl (canon x_1.2).length 1 (natG .u32 (canon x_1.2))] ∧ fits x_1.1 ∧ x_1.2 ≤ x_1.1) fun n_3 => .all (fun (d : Nat) => d = n_3.1 - n_3.2) fun n_4 => .ex (fun (x : Bool × Nat) => eqL [AV.bool m, AV.sl (canon n_4).length 1 (natG .u32 (canon n_4))] [AV.bool x.1, AV.sl (canon x.2).length 1 (natG .u32 (canon x.2))] ∧ True) fun n_5 => .all (fun (r : Bool × Nat) => r = (n_5.1 && decide (0 < n_5.2), n_5.2)) fun n_6 => .leaf (.ret [.agg [.bool n_6.1, .sl (canon n_6.2).length 1 (natG .u32 (canon n_6.2))]] [.box [.bool m, .sl (canon x).length 1 (natG .u32 (canon x))], .box [.bool n, .sl (canon y).length 1 (natG .u32 (canon y))], .box [.bool n_6.1, .sl (canon n_6.2).length 1 (natG .u32 (canon n_6.2))]])) (.ex (fun (x_1 : Nat × Nat) => eqL [AV.sl (canon y).length 1 (natG .u32 (canon y)), AV.sl (canon x).length 1 (natG .u32 (canon x))] [AV.sl (canon x_1.1).length 1 (natG .u32 (canon x_1.1)), AV.sl (canon x_1.2).length 1 (natG .u32 (canon x_1.2))] ∧ fits x_1.1 ∧ x_1.2 ≤ x_1.1) fun n_3 => .all (fun (d : Nat) => d = n_3.1 - n_3.2) fun n_4 => .ex (fun (x : Bool × Nat) => eqL [AV.bool n, AV.sl (canon n_4).length 1 (natG .u32 (canon n_4))] [AV.bool x.1, AV.sl (canon x.2).length 1 (natG .u32 (canon x.2))] ∧ True) fun n_5 => .all (fun (r : Bool × Nat) => r = (n_5.1 && decide (0 < n_5.2), n_5.2)) fun n_6 => .leaf (.ret [.agg [.bool n_6.1, .sl (canon n_6.2).length 1 (natG .u32 (canon n_6.2))]] [.box [.bool m, .sl (canon x).length 1 (natG .u32 (canon x))], .box [.bool n, .sl (canon y).length 1 (natG .u32 (canon y))], .box [.bool n_6.1, .sl (canon n_6.2).length 1 (natG .u32 (canon n_6.2))]])))) (by kernel_rfl) ?_
 simp only [Tree.holds, ze]
 have eL : ∀ a b : Nat, eqL [AV.sl (canon a).length 1 (natG .u32 (canon a)), AV.sl (canon b).length 1 (natG .u32 (canon b))] [AV.sl (canon a).length 1 (natG .u32 (canon a)), AV.sl (canon b).length 1 (natG .u32 (canon b))] := fun a b => ⟨⟨rfl, rfl, zc _ _ _⟩, ⟨rfl, rfl, zc _ _ _⟩, trivial⟩
 have eK : ∀ (b : Bool) (a : Nat), eqL [AV.bool b, AV.sl (canon a).length 1 (natG .u32 (canon a))] [AV.bool b, AV.sl (canon a).length 1 (natG .u32 (canon a))] := fun b a => ⟨rfl, ⟨rfl, rfl, zc _ _ _⟩, trivial⟩
 have hcm : ∀ v, v = cmp3 x y → (0 ≤ v ↔ y ≤ x) := by
  rintro v rfl
  unfold cmp3
  split
  ·exact ⟨fun h => by omega, fun h => by omega⟩
  ·split
   ·exact ⟨fun h => by omega, fun h => by omega⟩
   ·exact ⟨fun h => by omega, fun h => by omega⟩
 refine ⟨fun h => ?_, fun h => ⟨(x, y), ⟨eL x y, by show (canon x).length < _; omega, by show (canon y).length < _; omega⟩, ⟨_, rfl⟩, ?_⟩⟩
 ·have h : m = n := by simpa using h
  refine ⟨(x, y), ⟨eL x y, h1, h2⟩, ⟨_, rfl⟩, ?_⟩
  rintro _ rfl
  refine ⟨(m, x + y), ⟨eK m _, trivial⟩, ⟨_, rfl⟩, ?_⟩
  rintro _ rfl
  have e : sumS m x n y = (m, x + y) := if_pos h
  rw [e] at hq
  exact RetR.numV rfl hq
 ·have h : ¬ m = n := by simpa using h
  intro v hv
  have hv := hcm v hv
  refine ⟨fun g => ?_, fun g => ?_⟩
  ·have g : y ≤ x := hv.1 (of_decide_eq_true g)
   refine ⟨(x, y), ⟨eL x y, by show (canon x).length < _; omega, g⟩, ⟨_, rfl⟩, ?_⟩
   rintro _ rfl
   refine ⟨(m, x - y), ⟨eK m _, trivial⟩, ⟨_, rfl⟩, ?_⟩
   rintro _ rfl
   have e : sumS m x n y = (m, x - y) := by rw [sumS, if_neg h, if_pos g]
   rw [e] at hq
   exact RetR.numV rfl hq
  ·have g : ¬ y ≤ x := fun h3 => of_decide_eq_false g (hv.2 h3)
   refine ⟨(y, x), ⟨eL y x, by show (canon y).length < _; omega, by show x ≤ y; omega⟩, ⟨_, rfl⟩, ?_⟩
   rintro _ rfl
   refine ⟨(n, y - x), ⟨eK n _, trivial⟩, ⟨_, rfl⟩, ?_⟩
   rintro _ rfl
   have e : sumS m x n y = (n, y - x) := by rw [sumS, if_neg h, if_neg g]
   rw [e] at hq
   exact RetR.numV rfl hq
theorem qm {x n : Nat} (h : x < B ^ n) (hn : n < 100000) : (canon x).length < 100000 := by have := z4 h; omega
theorem jr {s : List UInt8} (h : errI s = 0) : numI s < B ^ 112 := j7.2 (xP h)
theorem UG {x y : Nat} (hx : x < B ^ 112) (hy : y < B ^ 112) : x + y < B ^ 113 ∧ x * y < B ^ 224 := by
 constructor
 ·have : B ^ 113 = B ^ 112 * B := Nat.pow_succ B 112
  have hB : B = 1000000000 := rfl
  generalize B ^ 112 = p at *
  rw [this, hB]; omega
 ·have : B ^ 224 = B ^ 112 * B ^ 112 := by rw [← Nat.pow_add]
  rw [this]
  exact Nat.mul_lt_mul_of_lt_of_lt hx hy
noncomputable def GAd : Nat → Option Ctr := fun f => if f = 53 then some (u5) else if f = 56 then some (sumC) else if f = 54 then some (uV) else if f = 55 then some (KQ) else if f = 81 then some (y6) else none
theorem Ka : ∀ g c, GAd g = some c → zg Tryz.prog g c := okIf JP (okIf zbd (okIf Z9 (okIf WN (okIf xR (zp)))))
def addC : Ctr := ctrP true (fun p : List UInt8 × List UInt8 => [.str p.1, .str p.2]) (fun p => p.1.length < 2 ^ 62 ∧ p.2.length < 2 ^ 62) (fun p r => r = addI p.1 p.2) (fun _ r => (.tup [.str r.1, .int .i64 r.2], []))
def subC : Ctr := ctrP true (fun p : List UInt8 × List UInt8 => [.str p.1, .str p.2]) (fun p => p.1.length < 2 ^ 62 ∧ p.2.length < 2 ^ 62) (fun p r => r = subI p.1 p.2) (fun _ r => (.tup [.str r.1, .int .i64 r.2], []))
def mulC : Ctr := ctrP true (fun p : List UInt8 × List UInt8 => [.str p.1, .str p.2]) (fun p => p.1.length < 2 ^ 62 ∧ p.2.length < 2 ^ 62) (fun p r => r = mulI p.1 p.2) (fun _ r => (.tup [.str r.1, .int .i64 r.2], []))
theorem ze8 : zg Tryz.prog 45 addC := by
 refine zi (fn := Tryz.f45) (c := Tryz.f45.body.getD .skip) rfl rfl rfl fun p hp O w0 Q hq => ?_
 obtain ⟨s, t⟩ := p
 obtain ⟨hs, ht⟩ := hp
 replace hq := hq _ rfl
 simp only at hs ht hq
 refine zd.run hmix Ka [] 400 (T := .ex (fun (x : List UInt8 × List UInt8) => eqL [AV.str s, AV.str t] [AV.str x.1, AV.str x.2] ∧ x.1.length < 4611686018427387904 ∧ x.2.length < 4611686018427387904) fun n => .all (fun (r : Int × (Bool × Nat) × Bool × Nat) => r = if zq n.1 n.2 = 0 then ((0 : Int), (negI n.1, numI n.1), negI n.2, numI n.2) else (zq n.1 n.2, (false, 0), false, 0)) fun n => .ite (!decide (n.1 = 0)) (.leaf (.ret [.str (Array.toList #[]), .int .i64 n.1] [.box [.bool (Prod.fst (n.2.1)), .sl (List.length (canon (Prod.snd (n.2.1)))) 1 (natG .u32 (canon (Prod.snd (n.2.1))))], .box [.bool (Prod.fst (n.2.2)), .sl (List.length (canon (Prod.snd (n.2.2)))) 1 (natG .u32 (canon (Prod.snd (n.2.2))))]])) (.ex (fun (x : (Bool × Nat) × Bool × Nat) => eqL [AV.agg [AV.bool (Prod.fst (n.2.1)), AV.sl (List.length (canon (Prod.snd (n.2.1)))) 1 (natG .u32 (canon (Prod.snd (n.2.1))))], AV.agg [AV.bool (Prod.fst (n.2.2)), AV.sl (List.length (canon (Prod.snd (n.2.2)))) 1 (natG .u32 (canon (Prod.snd (n.2.2))))]] [AV.agg [AV.bool (x.1.1), AV.sl (canon x.1.2).length 1 (natG .u32 (canon x.1.2))], AV.agg [AV.bool (x.2.1), AV.sl (List.length (canon (x.2.2))) 1 (natG .u32 (canon (x.2.2)))]] ∧ List.length (canon x.1.2) < 100000 ∧ List.length (canon (x.2.2)) < 100000) fun n_1 => .all (fun (r : Bool × Nat) => r = (Prod.fst (sumS (n_1.1.1) n_1.1.2 (n_1.2.1) (n_1.2.2)) && decide (0 < Prod.snd (sumS (n_1.1.1) n_1.1.2 (n_1.2.1) (n_1.2.2))), Prod.snd (sumS (n_1.1.1) n_1.1.2 (n_1.2.1) (n_1.2.2)))) fun n_2 => .ex (fun (x : Bool × Nat) => eqL [AV.agg [AV.bool n_2.1, AV.sl (canon n_2.2).length 1 (natG .u32 (canon n_2.2))]] [AV.agg [AV.bool x.1, AV.sl (canon x.2).length 1 (natG .u32 (canon x.2))]] ∧ List.length (canon x.2) < 1000000) fun n_3 => .all (fun (r : List UInt8 × Int) => r = wr n_3.1 n_3.2) fun n_4 => .leaf (.ret [.str n_4.1, .int .i64 n_4.2] [.box [.bool (Prod.fst (n.2.1)), .sl (List.length (canon (Prod.snd (n.2.1)))) 1 (natG .u32 (canon (Prod.snd (n.2.1))))], .box [.bool (Prod.fst (n.2.2)), .sl (List.length (canon (Prod.snd (n.2.2)))) 1 (natG .u32 (canon (Prod.snd (n.2.2))))]]))) (by kernel_rfl) ?_
 simp only [Tree.holds, ze]
 refine ⟨(s, t), ⟨by simp, by omega, by omega⟩, ⟨_, rfl⟩, ?_⟩
 rintro _ rfl
 simp only
 by_cases he : zq s t = 0
 ·obtain ⟨e1, e2⟩ := zk.1 he
  obtain ⟨b1, b2⟩ := UG (jr e1) (jr e2)
  have c1 := qm (jr e1) (by decide)
  have c2 := qm (jr e2) (by decide)
  simp only [if_pos he]
  refine ⟨fun h => (by simp at h), fun _ => ?_⟩
  refine ⟨((negI s, numI s), (negI t, numI t)), ⟨⟨⟨rfl, ⟨rfl, rfl, zc _ _ _⟩, trivial⟩, ⟨rfl, ⟨rfl, rfl, zc _ _ _⟩, trivial⟩, trivial⟩, c1, c2⟩, ⟨_, rfl⟩, ?_⟩
  rintro _ rfl
  refine ⟨((sumS (negI s) (numI s) (negI t) (numI t)).1 && decide (0 < (sumS (negI s) (numI s) (negI t) (numI t)).2), (sumS (negI s) (numI s) (negI t) (numI t)).2), ⟨⟨⟨rfl, ⟨rfl, rfl, zc _ _ _⟩, trivial⟩, trivial⟩, ?_⟩, ⟨_, rfl⟩, ?_⟩
  ·have := qm (Nat.lt_of_le_of_lt (XK (negI s) (numI s) (negI t) (numI t)) b1) (by decide)
   show (canon (sumS (negI s) (numI s) (negI t) (numI t)).2).length < 1000000
   omega
  rintro _ rfl
  rw [XU]
  have e : addI s t = wr (sumS (negI s) (numI s) (negI t) (numI t)).1 (sumS (negI s) (numI s) (negI t) (numI t)).2 := if_pos he
  rw [e] at hq
  exact RetR.scal hq rfl (by simp [resV])
 ·simp only [if_neg he]
  refine ⟨fun _ => ?_, fun h => (by simp [he] at h)⟩
  have e : addI s t = ([], zq s t) := if_neg he
  rw [e] at hq
  exact RetR.scal hq rfl (by simp [resV])
theorem zew : zg Tryz.prog 35 subC := by
 refine zi (fn := Tryz.f35) (c := Tryz.f35.body.getD .skip) rfl rfl rfl fun p hp O w0 Q hq => ?_
 obtain ⟨s, t⟩ := p
 obtain ⟨hs, ht⟩ := hp
 replace hq := hq _ rfl
 simp only at hs ht hq
 refine zd.run hmix Ka [] 400 (T := .ex (fun (x : List UInt8 × List UInt8) => eqL [AV.str s, AV.str t] [AV.str x.1, AV.str x.2] ∧ x.1.length < 4611686018427387904 ∧ x.2.length < 4611686018427387904) fun n => .all (fun (r : Int × (Bool × Nat) × Bool × Nat) => r = if zq n.1 n.2 = 0 then ((0 : Int), (negI n.1, numI n.1), negI n.2, numI n.2) else (zq n.1 n.2, (false, 0), false, 0)) fun n => .ite (!decide (n.1 = 0)) (.leaf (.ret [.str (Array.toList #[]), .int .i64 n.1] [.box [.bool (Prod.fst (n.2.1)), .sl (List.length (canon (Prod.snd (n.2.1)))) 1 (natG .u32 (canon (Prod.snd (n.2.1))))], .box [.bool (Prod.fst (n.2.2)), .sl (List.length (canon (Prod.snd (n.2.2)))) 1 (natG .u32 (canon (Prod.snd (n.2.2))))]])) (.ex (fun (x : (Bool × Nat) × Bool × Nat) => eqL [AV.agg [AV.bool (Prod.fst (n.2.1)), AV.sl (List.length (canon (Prod.snd (n.2.1)))) 1 (natG .u32 (canon (Prod.snd (n.2.1))))], AV.agg [AV.bool (bif !Prod.fst (n.2.2) then decide ((0 : Int) < (↑(List.length (canon (Prod.snd (n.2.2)))) : Int)) else false), AV.sl (List.length (canon (Prod.snd (n.2.2)))) 1 (natG .u32 (canon (Prod.snd (n.2.2))))]] [AV.agg [AV.bool (x.1.1), AV.sl (canon x.1.2).length 1 (natG .u32 (canon x.1.2))], AV.agg [AV.bool (x.2.1), AV.sl (List.length (canon (x.2.2))) 1 (natG .u32 (canon (x.2.2)))]] ∧ List.length (canon x.1.2) < 100000 ∧ List.length (canon (x.2.2)) < 100000) fun n_1 => .all (fun (r : Bool × Nat) => r = (Prod.fst (sumS (n_1.1.1) n_1.1.2 (n_1.2.1) (n_1.2.2)) && decide (0 < Prod.snd (sumS (n_1.1.1) n_1.1.2 (n_1.2.1) (n_1.2.2))), Prod.snd (sumS (n_1.1.1) n_1.1.2 (n_1.2.1) (n_1.2.2)))) fun n_2 => .ex (fun (x : Bool × Nat) => eqL [AV.agg [AV.bool n_2.1, AV.sl (canon n_2.2).length 1 (natG .u32 (canon n_2.2))]] [AV.agg [AV.bool x.1, AV.sl (canon x.2).length 1 (natG .u32 (canon x.2))]] ∧ List.length (canon x.2) < 1000000) fun n_3 => .all (fun (r : List UInt8 × Int) => r = wr n_3.1 n_3.2) fun n_4 => .leaf (.ret [.str n_4.1, .int .i64 n_4.2] [.box [.bool (Prod.fst (n.2.1)), .sl (List.length (canon (Prod.snd (n.2.1)))) 1 (natG .u32 (canon (Prod.snd (n.2.1))))], .box [.bool (bif !Prod.fst (n.2.2) then decide ((0 : Int) < (↑(List.length (canon (Prod.snd (n.2.2)))) : Int)) else false), .sl (List.length (canon (Prod.snd (n.2.2)))) 1 (natG .u32 (canon (Prod.snd (n.2.2))))]]))) (by kernel_rfl) ?_
 simp only [Tree.holds, ze]
 refine ⟨(s, t), ⟨by simp, by omega, by omega⟩, ⟨_, rfl⟩, ?_⟩
 rintro _ rfl
 simp only
 by_cases he : zq s t = 0
 ·obtain ⟨e1, e2⟩ := zk.1 he
  obtain ⟨b1, b2⟩ := UG (jr e1) (jr e2)
  have c1 := qm (jr e1) (by decide)
  have c2 := qm (jr e2) (by decide)
  simp only [if_pos he]
  refine ⟨fun h => (by simp at h), fun _ => ?_⟩
  have eN : (bif !negI t then decide (0 < ((canon (numI t)).length : Int)) else false) = (!negI t && decide (0 < numI t)) := by rw [Zd]; cases negI t <;> rfl
  rw [eN]
  refine ⟨((negI s, numI s), (!negI t && decide (0 < numI t), numI t)), ⟨⟨⟨rfl, ⟨rfl, rfl, zc _ _ _⟩, trivial⟩, ⟨rfl, ⟨rfl, rfl, zc _ _ _⟩, trivial⟩, trivial⟩, c1, c2⟩, ⟨_, rfl⟩, ?_⟩
  rintro _ rfl
  simp only [YJ]
  refine ⟨((sumS (negI s) (numI s) (!negI t) (numI t)).1 && decide (0 < (sumS (negI s) (numI s) (!negI t) (numI t)).2), (sumS (negI s) (numI s) (!negI t) (numI t)).2), ⟨⟨⟨rfl, ⟨rfl, rfl, zc _ _ _⟩, trivial⟩, trivial⟩, ?_⟩, ⟨_, rfl⟩, ?_⟩
  ·have := qm (Nat.lt_of_le_of_lt (XK (negI s) (numI s) (!negI t) (numI t)) b1) (by decide)
   show (canon (sumS (negI s) (numI s) (!negI t) (numI t)).2).length < 1000000
   omega
  rintro _ rfl
  rw [XU]
  have e : subI s t = wr (sumS (negI s) (numI s) (!negI t) (numI t)).1 (sumS (negI s) (numI s) (!negI t) (numI t)).2 := if_pos he
  rw [e] at hq
  exact RetR.scal hq rfl (by simp [resV])
 ·simp only [if_neg he]
  refine ⟨fun _ => ?_, fun h => (by simp [he] at h)⟩
  have e : subI s t = ([], zq s t) := if_neg he
  rw [e] at hq
  exact RetR.scal hq rfl (by simp [resV])
theorem zfa : zg Tryz.prog 34 mulC := by
 refine zi (fn := Tryz.f34) (c := Tryz.f34.body.getD .skip) rfl rfl rfl fun p hp O w0 Q hq => ?_
 obtain ⟨s, t⟩ := p
 obtain ⟨hs, ht⟩ := hp
 replace hq := hq _ rfl
 simp only at hs ht hq
 refine zd.run hmix Ka [] 400 (T := .ex (fun (x : List UInt8 × List UInt8) => eqL [AV.str s, AV.str t] [AV.str x.1, AV.str x.2] ∧ x.1.length < 4611686018427387904 ∧ x.2.length < 4611686018427387904) fun n => .all (fun (r : Int × (Bool × Nat) × Bool × Nat) => r = if zq n.1 n.2 = 0 then ((0 : Int), (negI n.1, numI n.1), negI n.2, numI n.2) else (zq n.1 n.2, (false, 0), false, 0)) fun n => .ite (!decide (n.1 = 0)) (.leaf (.ret [.str (Array.toList #[]), .int .i64 n.1] [.box [.bool (Prod.fst (n.2.1)), .sl (List.length (canon (Prod.snd (n.2.1)))) 1 (natG .u32 (canon (Prod.snd (n.2.1))))], .box [.bool (Prod.fst (n.2.2)), .sl (List.length (canon (Prod.snd (n.2.2)))) 1 (natG .u32 (canon (Prod.snd (n.2.2))))]])) (.ex (fun (x : Nat × Nat) => eqL [AV.sl (List.length (canon (Prod.snd (n.2.1)))) 1 (natG .u32 (canon (Prod.snd (n.2.1)))), AV.sl (List.length (canon (Prod.snd (n.2.2)))) 1 (natG .u32 (canon (Prod.snd (n.2.2))))] [AV.sl (canon x.1).length 1 (natG .u32 (canon x.1)), AV.sl (canon x.2).length 1 (natG .u32 (canon x.2))] ∧ fits x.1 ∧ fits x.2) fun n_1 => .all (fun (p : Nat) => p = n_1.1 * n_1.2) fun n_2 => .ex (fun (x : Bool × Nat) => eqL [AV.agg [AV.bool !Prod.fst (n.2.1) == Prod.fst (n.2.2), AV.sl (canon n_2).length 1 (zj (natG .u32 (padN (List.length (canon n_1.1) + List.length (canon n_1.2)) n_2)) 0)]] [AV.agg [AV.bool x.1, AV.sl (canon x.2).length 1 (natG .u32 (canon x.2))]] ∧ List.length (canon x.2) < 1000000) fun n_3 => .all (fun (r : List UInt8 × Int) => r = wr n_3.1 n_3.2) fun n_4 => .leaf (.ret [.str n_4.1, .int .i64 n_4.2] [.box [.bool (Prod.fst (n.2.1)), .sl (List.length (canon (Prod.snd (n.2.1)))) 1 (natG .u32 (canon (Prod.snd (n.2.1))))], .box [.bool (Prod.fst (n.2.2)), .sl (List.length (canon (Prod.snd (n.2.2)))) 1 (natG .u32 (canon (Prod.snd (n.2.2))))], .arr (List.length (canon n_1.1) + List.length (canon n_1.2)) 1 (natG .u32 (padN (List.length (canon n_1.1) + List.length (canon n_1.2)) n_2))]))) (by kernel_rfl) ?_
 simp only [Tree.holds, ze]
 refine ⟨(s, t), ⟨by simp, by omega, by omega⟩, ⟨_, rfl⟩, ?_⟩
 rintro _ rfl
 simp only
 by_cases he : zq s t = 0
 ·obtain ⟨e1, e2⟩ := zk.1 he
  obtain ⟨b1, b2⟩ := UG (jr e1) (jr e2)
  have c1 := qm (jr e1) (by decide)
  have c2 := qm (jr e2) (by decide)
  simp only [if_pos he]
  refine ⟨fun h => (by simp at h), fun _ => ?_⟩
  refine ⟨(numI s, numI t), ⟨⟨⟨rfl, rfl, zc _ _ _⟩, ⟨rfl, rfl, zc _ _ _⟩, trivial⟩, by show (canon (numI s)).length < 1000000; omega, by show (canon (numI t)).length < 1000000; omega⟩, ⟨_, rfl⟩, ?_⟩
  rintro _ rfl
  refine ⟨(negI s != negI t, numI s * numI t), ⟨⟨⟨rfl, ⟨rfl, rfl, fun j o hj ho => by simp only [zj, natG, Nat.zero_add, padN, ku hj]⟩, trivial⟩, trivial⟩, ?_⟩, ⟨_, rfl⟩, ?_⟩
  ·have := qm b2 (by decide)
   show (canon (numI s * numI t)).length < 1000000
   omega
  rintro _ rfl
  have e : mulI s t = wr (negI s != negI t) (numI s * numI t) := if_pos he
  rw [e] at hq
  exact RetR.scal hq rfl (by simp [resV])
 ·simp only [if_neg he]
  refine ⟨fun _ => ?_, fun h => (by simp [he] at h)⟩
  have e : mulI s t = ([], zq s t) := if_neg he
  rw [e] at hq
  exact RetR.scal hq rfl (by simp [resV])
end Go.Proofs.Tryz
end

/- Rationals as they are written. -/
section
namespace Go.Nov
def Q8 (neg : Bool) (x y : Nat) : List UInt8 :=
 if y / Nat.gcd x y = 1 then (wr neg (x / Nat.gcd x y)).1 else (wr neg (x / Nat.gcd x y)).1 ++ [47] ++ (wr false (y / Nat.gcd x y)).1
def qJ (n d : List UInt8) : List UInt8 × Int := if zq n d ≠ 0 then ([], zq n d) else if numI d = 0 then ([], 16) else (Q8 (negI n != negI d) (numI n) (numI d), 0)
def zW (a b : List UInt8) : Int := if errR a = 0 then errR b else errR a
def numR (a : List UInt8) : List UInt8 := (cutR a).1
def denR (a : List UInt8) : List UInt8 := if (cutR a).2.2 then (cutR a).2.1 else [49]
def frac (z w : List UInt8 × Int) : List UInt8 × Int := if z.2 ≠ 0 ∨ w.2 ≠ 0 then ([], 14) else qJ z.1 w.1
def zM (a b : List UInt8) : Int := if zW a b ≠ 0 then zW a b else if (mulI (numR a) (denR b)).2 ≠ 0 ∨ (mulI (numR b) (denR a)).2 ≠ 0 then 14 else 0
def addR (a b : List UInt8) : List UInt8 × Int := if zM a b ≠ 0 then ([], zM a b) else frac (addI (mulI (numR a) (denR b)).1 (mulI (numR b) (denR a)).1) (mulI (denR a) (denR b))
def subR (a b : List UInt8) : List UInt8 × Int := if zM a b ≠ 0 then ([], zM a b) else frac (subI (mulI (numR a) (denR b)).1 (mulI (numR b) (denR a)).1) (mulI (denR a) (denR b))
def mulR (a b : List UInt8) : List UInt8 × Int := if zW a b ≠ 0 then ([], zW a b) else frac (mulI (numR a) (numR b)) (mulI (denR a) (denR b))
def divR (a b : List UInt8) : List UInt8 × Int := if zW a b ≠ 0 then ([], zW a b) else if numR b = [48] then ([], 16) else frac (mulI (numR a) (denR b)) (mulI (denR a) (numR b))
def cmpR (a b : List UInt8) : Int × Int := if zM a b ≠ 0 then (0, zM a b) else zg1 (mulI (numR a) (denR b)).1 (mulI (numR b) (denR a)).1
end Go.Nov
namespace Go.Nov
def dmQ (s t : List UInt8) : Nat := if negI s = true ∧ 0 < numI s % numI t then numI s / numI t + 1 else numI s / numI t
def dmM (s t : List UInt8) : Nat := if negI s = true ∧ 0 < numI s % numI t then numI t - numI s % numI t else numI s % numI t
def dmI (s t : List UInt8) : List UInt8 × List UInt8 × Int :=
 if zq s t ≠ 0 then ([], [], zq s t) else if numI t = 0 then ([], [], 16) else ((wr (negI s != negI t) (dmQ s t)).1, (wr false (dmM s t)).1, 0)
theorem zc6 {s : List UInt8} (h : errI s = 0) : ∃ k, k ≤ 1000 ∧ numI s < 10 ^ k := by
 obtain ⟨_, h1, _, h2⟩ := kQ h
 exact ⟨_, h2, xu h1⟩
def room (x : Nat) : Prop := (dec x).length ≤ 1000
theorem room_le {x y : Nat} (h : x ≤ y) (hy : room y) : room x := by
 rcases Nat.lt_or_ge (dec y).length (dec x).length with h1 | h1
 ·have := Ten.zV h1
  omega
 ·exact Nat.le_trans h1 hy
theorem qU {s : List UInt8} (h : errI s = 0) : room (numI s) := by
 obtain ⟨k, h1, h2⟩ := zc6 h
 exact Nat.le_trans (vY h2) h1
theorem wG {neg : Bool} {x : Nat} (h : room x) : (wr neg x).2 = 0 := by
 unfold wr
 split
 ·rfl
 ·rw [if_neg (by have : (dec x).length ≤ 1000 := h; omega)]
theorem Vw {s t : List UInt8} (hs : errI s = 0) (ht : numI t ≠ 0) : room (dmQ s t) := by
 have h := qU hs
 unfold dmQ
 split
 ·rename_i hc
  by_cases h1 : numI t = 1
  ·rw [h1, Nat.mod_one] at hc; omega
  ·refine room_le ?_ h
   have h2 : numI s / numI t ≤ numI s / 2 := Nat.div_le_div_left (by omega) (by omega)
   have h3 : numI s ≠ 0 := fun h0 => by rw [h0, Nat.zero_mod] at hc; omega
   by_cases h4 : numI s = 1
   ·have : numI s / numI t = 0 := Nat.div_eq_of_lt (by omega)
    omega
   ·omega
 ·exact room_le (Nat.div_le_self _ _) h
theorem WS {s t : List UInt8} (ht : errI t = 0) (h0 : numI t ≠ 0) : room (dmM s t) := by
 have h := qU ht
 have hm := Nat.mod_lt (numI s) (Nat.pos_of_ne_zero h0)
 unfold dmM
 split
 ·exact room_le (Nat.sub_le _ _) h
 ·exact room_le (by omega) h
end Go.Nov
namespace Go.Nov
theorem kb : wr false 1 = ([49], 0) := by
 have h : dec 1 = [1] := by
  show Ten.canon 1 = [1]
  rw [Ten.qV (by decide)]
  exact congrArg (1 :: ·) Ten.zH
 simp [wr, h, txt, sgn, byt]
theorem Z6 {x : Nat} (h : room x) : (wr false x).1 = [49] ↔ x = 1 := by
 constructor
 ·intro e
  have := (uz (wG (neg := false) h)).2.1
  rw [e] at this
  exact this.symm
 ·rintro rfl
  rw [kb]
theorem zbt {x : Nat} (h0 : x ≠ 0) (h : room x) : [45] ++ (wr false x).1 = (wr true x).1 := by
 unfold wr
 rw [if_neg h0, if_neg h0, if_neg (by have : (dec x).length ≤ 1000 := h; omega), if_neg (by have : (dec x).length ≤ 1000 := h; omega)]
 rfl
theorem wY {t : List UInt8} (h : errI t = 0) : t = [48] ↔ numI t = 0 := by
 constructor
 ·rintro rfl; rfl
 ·intro h0
  obtain ⟨neg, b, h1, h2, h3, h4, h5, h6⟩ := uO h
  have hb : numD b = 0 := by simpa [numI, h2] using h0
  cases b with
  | nil => exact absurd rfl h5
  | cons c r =>
   have hc := h4 c (by simp)
   have e : numD (c :: r) = (c.toNat - 48) * 10 ^ r.length + numD r := by
    have := vy [c] r
    simp only [List.singleton_append] at this
    rw [this]
    simp [numD]
   rw [e] at hb
   have hc0 : c.toNat = 48 := by
    rcases Nat.eq_zero_or_pos (c.toNat - 48) with h7 | h7
    ·omega
    ·have := Nat.mul_pos h7 (Nat.pow_pos (n := r.length) (show 0 < 10 by decide))
     omega
   have hc1 : c = 48 := UInt8.toNat_inj.1 (by rw [hc0]; rfl)
   subst hc1
   have hr : r = [] := by
    cases r with
    | nil => rfl
    | cons d r =>
     have := wO (neg := neg) (b := 48 :: d :: r) rfl (by simp)
     rw [this] at h3; cases h3
   subst hr
   cases neg with
   | true => cases h3
   | false => simpa [sgn] using h1
theorem y9 {s : List UInt8} {b : Bool} {g : Nat} (hs : errI s = 0) (h0 : g ≠ 0) (hg : room g) (hd : g ∣ numI s) : dmI s (wr b g).1 = ((wr (negI s != b) (numI s / g)).1, [48], 0) := by
 obtain ⟨h1, h2, h3⟩ := uz (wG (neg := b) hg)
 have hb : negI (wr b g).1 = b := by rw [h3]; simp [h0]
 have he : zq s (wr b g).1 = 0 := zk.2 ⟨hs, h1⟩
 have hm : numI s % g = 0 := Nat.mod_eq_zero_of_dvd hd
 unfold dmI
 rw [if_neg (by rw [he]; decide), h2, if_neg h0, hb]
 have hq : dmQ s (wr b g).1 = numI s / g := by
  unfold dmQ
  rw [h2, hm, if_neg (by omega)]
 have hr : dmM s (wr b g).1 = 0 := by
  unfold dmM
  rw [h2, hm, if_neg (by omega)]
 rw [hq, hr]
 rfl
theorem Z3 {s t : List UInt8} (ht : errI t = 0) (h0 : numI t ≠ 0) : Nat.gcd (numI s) (numI t) ≠ 0 ∧ room (Nat.gcd (numI s) (numI t)) := by
 have hp := Nat.pos_of_ne_zero h0
 refine ⟨fun h => ?_, room_le (Nat.le_of_dvd hp (Nat.gcd_dvd_right _ _)) (qU ht)⟩
 have := Nat.eq_zero_of_gcd_eq_zero_right h
 exact h0 this
end Go.Nov
namespace Go.Nov
theorem zao : errI [49] = 0 := rfl
theorem q7 {a : List UInt8} (h : errR a = 0) : errI (numR a) = 0 ∧ errI (denR a) = 0 ∧ negI (denR a) = false ∧ numI (denR a) ≠ 0 := by
 unfold errR at h
 unfold numR denR
 cases hc : (cutR a).2.2 with
 | true =>
  rw [hc] at h
  simp only [if_true] at h ⊢
  split at h
  ·cases h
  ·rename_i h1
   simp only [not_or] at h1
   split at h
   ·cases h
   ·rename_i h2
    simp only [not_or, Classical.not_not] at h2
    refine ⟨h2.1, h2.2, by simpa using h1.2.2.1, fun h0 => ?_⟩
    exact h1.2.2.2.1 ((wY h2.2).2 h0)
 | false =>
  rw [hc] at h
  simp only [Bool.false_eq_true, if_false] at h ⊢
  have : (cutR a).1 = a := by
   unfold cutR at hc ⊢
   split at hc
   ·cases hc
   ·rename_i hn; rw [if_neg hn]
  rw [this]
  exact ⟨h, zao, rfl, by decide⟩
theorem wo (a : List UInt8) : (numR a).length ≤ a.length := (uP a).1
theorem jv (a : List UInt8) : (denR a).length ≤ a.length + 1 := by
 unfold denR
 split
 ·exact Nat.le_trans (uP a).2 (Nat.le_succ _)
 ·simp
theorem kU {s t : List UInt8} (h : zq s t = 0) : (mulI s t).2 = 0 ∧ errI (mulI s t).1 = 0 ∨ mulI s t = ([], 14) := by
 unfold mulI
 rw [if_pos h]
 exact (JR _ _).imp (fun h => ⟨h, (uz h).1⟩) id
theorem UL {s t : List UInt8} (h : zq s t = 0) : (addI s t).2 = 0 ∧ errI (addI s t).1 = 0 ∨ addI s t = ([], 14) := by
 unfold addI
 rw [if_pos h]
 exact (JR _ _).imp (fun h => ⟨h, (uz h).1⟩) id
theorem zc1 {s t : List UInt8} (h : zq s t = 0) : (subI s t).2 = 0 ∧ errI (subI s t).1 = 0 ∨ subI s t = ([], 14) := by
 unfold subI
 rw [if_pos h]
 exact (JR _ _).imp (fun h => ⟨h, (uz h).1⟩) id
end Go.Nov
namespace Go.Nov
def stp (e : Int) (f : List UInt8 → List UInt8 → List UInt8 × Int) (x y : List UInt8) : List UInt8 × Int := if e ≠ 0 then ([], e) else f x y
theorem zd2 {e : Int} {f : List UInt8 → List UInt8 → List UInt8 × Int} {x y : List UInt8} (h : (f x y).1.length ≤ 1001) : (stp e f x y).1.length ≤ 1001 := by
 unfold stp
 split
 ·simp
 ·exact h
theorem qx {e : Int} (h : e ≠ 0) (f : List UInt8 → List UInt8 → List UInt8 × Int) (x y : List UInt8) : stp e f x y = ([], e) := if_pos h
theorem v7 (f : List UInt8 → List UInt8 → List UInt8 × Int) (x y : List UInt8) : stp 0 f x y = f x y := if_neg (by simp)
def Zv (f : List UInt8 → List UInt8 → List UInt8 × Int) (a b : List UInt8) : List UInt8 × Int :=
 if zM a b ≠ 0 then ([], zM a b) else frac (f (mulI (numR a) (denR b)).1 (mulI (numR b) (denR a)).1) (mulI (denR a) (denR b))
section
variable {a b n m d c : List UInt8} {e : Int} (hp : (e ≠ 0 ∧ zW a b = e) ∨ (e = 0 ∧ errR a = 0 ∧ errR b = 0 ∧ n = numR a ∧ m = numR b ∧ d = denR a ∧ c = denR b))
include hp
theorem u7 {f : List UInt8 → List UInt8 → List UInt8 × Int} (hf : ∀ {s t : List UInt8}, zq s t = 0 → (f s t).2 = 0 ∧ errI (f s t).1 = 0 ∨ f s t = ([], 14)) {r1 r2 r3 r4 r5 : List UInt8 × Int}
  (h1 : r1 = stp e mulI n c) (h2 : r2 = stp r1.2 mulI m d) (h3 : r3 = stp r2.2 f r1.1 r2.1) (h4 : r4 = stp r3.2 mulI d c) (h5 : r5 = stp r4.2 qJ r3.1 r4.1) : r5 = Zv f a b := by
 rcases hp with ⟨he, h2e⟩ | ⟨rfl, ha, hb, rfl, rfl, rfl, rfl⟩
 ·have hc : zM a b = e := by unfold zM; rw [if_pos (by rw [h2e]; exact he)]; exact h2e
  unfold Zv
  rw [hc, if_pos he]
  rw [qx he] at h1
  subst h1
  rw [qx he] at h2
  subst h2
  rw [qx he] at h3
  subst h3
  rw [qx he] at h4
  subst h4
  rw [h5, qx he]
 ·obtain ⟨a1, a2, _⟩ := q7 ha
  obtain ⟨b1, b2, _⟩ := q7 hb
  have he2 : zW a b = 0 := by unfold zW; rw [if_pos ha]; exact hb
  have e14 : (14 : Int) ≠ 0 := by decide
  rw [v7] at h1
  have hc : zM a b = if (mulI (numR a) (denR b)).2 ≠ 0 ∨ (mulI (numR b) (denR a)).2 ≠ 0 then 14 else 0 := by unfold zM; rw [if_neg (by rw [he2]; simp)]
  rcases kU (zk.2 ⟨a1, b2⟩) with ⟨g1, k1⟩ | g1
  ·rw [← h1] at g1 k1
   rw [g1, v7] at h2
   rcases kU (zk.2 ⟨b1, a2⟩) with ⟨g2, k2⟩ | g2
   ·rw [← h2] at g2 k2
    rw [g2, v7] at h3
    have hc0 : zM a b = 0 := by rw [hc, if_neg]; rw [← h1, ← h2, g1, g2]; simp
    unfold Zv
    rw [hc0, if_neg (by simp), ← h1, ← h2, ← h3]
    rcases hf (zk.2 ⟨k1, k2⟩) with ⟨g3, k3⟩ | g3
    ·rw [← h3] at g3 k3
     rw [g3, v7] at h4
     unfold frac
     rw [← h4, h5]
     rcases kU (zk.2 ⟨a2, b2⟩) with ⟨g4, k4⟩ | g4
     ·rw [← h4] at g4
      rw [g3, g4, if_neg (by simp), v7]
     ·rw [← h4] at g4
      rw [g4, if_pos (by simp), qx e14]
    ·rw [← h3] at g3
     have q4 : r4 = ([], 14) := by rw [h4, g3]; exact qx e14 _ _ _
     unfold frac
     rw [if_pos (by rw [g3]; simp), h5, q4, qx e14]
   ·rw [← h2] at g2
    have hc0 : zM a b = 14 := by rw [hc, if_pos]; rw [← h2, g2]; simp
    unfold Zv
    rw [hc0, if_pos e14]
    have q3 : r3 = ([], 14) := by rw [h3, g2]; exact qx e14 _ _ _
    have q4 : r4 = ([], 14) := by rw [h4, q3]; exact qx e14 _ _ _
    rw [h5, q4, qx e14]
  ·rw [← h1] at g1
   have hc0 : zM a b = 14 := by rw [hc, if_pos]; rw [← h1, g1]; simp
   unfold Zv
   rw [hc0, if_pos e14]
   have q2 : r2 = ([], 14) := by rw [h2, g1]; exact qx e14 _ _ _
   have q3 : r3 = ([], 14) := by rw [h3, q2]; exact qx e14 _ _ _
   have q4 : r4 = ([], 14) := by rw [h4, q3]; exact qx e14 _ _ _
   rw [h5, q4, qx e14]
theorem Jf {x y z w : List UInt8} {r1 r2 r3 : List UInt8 × Int} (h1 : r1 = stp e mulI x y) (h2 : r2 = stp r1.2 mulI z w) (h3 : r3 = stp r2.2 qJ r1.1 r2.1)
  (hv : errR a = 0 → errR b = 0 → zq x y = 0 ∧ zq z w = 0) : r3 = if zW a b ≠ 0 then ([], zW a b) else frac (mulI x y) (mulI z w) := by
 rcases hp with ⟨he, h2e⟩ | ⟨rfl, ha, hb, _⟩
 ·rw [h2e, if_pos he]
  rw [qx he] at h1
  subst h1
  rw [qx he] at h2
  subst h2
  rw [h3, qx he]
 ·obtain ⟨v1, v2⟩ := hv ha hb
  have he2 : zW a b = 0 := by unfold zW; rw [if_pos ha]; exact hb
  have e14 : (14 : Int) ≠ 0 := by decide
  rw [he2, if_neg (by simp)]
  rw [v7] at h1
  unfold frac
  rcases kU v1 with ⟨g1, _⟩ | g1
  ·rw [← h1] at g1 ⊢
   rw [g1, v7] at h2
   rcases kU v2 with ⟨g2, _⟩ | g2
   ·rw [← h2] at g2 ⊢
    rw [g1, g2, if_neg (by simp), h3, g2, v7]
   ·rw [← h2] at g2 ⊢
    rw [g2, if_pos (by simp), h3, g2, qx e14]
  ·rw [← h1] at g1 ⊢
   have q2 : r2 = ([], 14) := by rw [h2, g1]; exact qx e14 _ _ _
   rw [g1, if_pos (by simp), h3, q2, qx e14]
end
end Go.Nov
end

/- The integers: division; fractions. -/
section
set_option maxRecDepth 100000
open Go Go.Sx Go.Proofs Go.Nov
namespace Go.Proofs.Tryz
attribute [local simp] eqKV eqA eqA0 eqH eqB eqL eqL0
def dmC : Ctr := ctrP true (fun p : List UInt8 × List UInt8 => [.str p.1, .str p.2]) (fun p => p.1.length < 2 ^ 62 ∧ p.2.length < 2 ^ 62) (fun p r => r = dmI p.1 p.2) (fun _ r => (.tup [.str r.1, .str r.2.1, .int .i64 r.2.2], []))
noncomputable def GDm : Nat → Option Ctr := fun f => if f = 53 then some (u5) else if f = 75 then some (yb) else if f = 80 then some (X8) else if f = 82 then some (JQ) else if f = 54 then some (uV) else none
theorem zfk : ∀ g c, GDm g = some c → zg Tryz.prog g c := okIf JP (okIf Jk (okIf XX (okIf Zm (okIf Z9 (zp)))))
theorem Yo : zg Tryz.prog 83 dmC := by
 refine zi (fn := Tryz.f83) (c := Tryz.f83.body.getD .skip) rfl rfl rfl fun p hp O w0 Q hq => ?_
 obtain ⟨s, t⟩ := p
 obtain ⟨hs, ht⟩ := hp
 replace hq := hq _ rfl
 simp only at hs ht hq
 refine zd.run hmix zfk [] 400 (T := .ex (fun (x : List UInt8 × List UInt8) => eqL [AV.str s, AV.str t] [AV.str x.1, AV.str x.2] ∧ x.1.length < 4611686018427387904 ∧ x.2.length < 4611686018427387904) fun n => .all (fun (r : Int × (Bool × Nat) × Bool × Nat) => r = if zq n.1 n.2 = 0 then ((0 : Int), (negI n.1, numI n.1), negI n.2, numI n.2) else (zq n.1 n.2, (false, 0), false, 0)) fun n => .ite (!decide (n.1 = 0)) (.leaf (.ret [.str (Array.toList #[]), .str (Array.toList #[]), .int .i64 n.1] [.box [.bool (Prod.fst (n.2.1)), .sl (List.length (canon (Prod.snd (n.2.1)))) 1 (natG .u32 (canon (Prod.snd (n.2.1))))], .box [.bool (Prod.fst (n.2.2)), .sl (List.length (canon (Prod.snd (n.2.2)))) 1 (natG .u32 (canon (Prod.snd (n.2.2))))]])) (.ite (decide ((↑(List.length (canon (Prod.snd (n.2.2)))) : Int) = 0)) (.leaf (.ret [.str (Array.toList #[]), .str (Array.toList #[]), .int .i64 16] [.box [.bool (Prod.fst (n.2.1)), .sl (List.length (canon (Prod.snd (n.2.1)))) 1 (natG .u32 (canon (Prod.snd (n.2.1))))], .box [.bool (Prod.fst (n.2.2)), .sl (List.length (canon (Prod.snd (n.2.2)))) 1 (natG .u32 (canon (Prod.snd (n.2.2))))]])) (.ex (fun (x : Nat × Nat) => eqL [AV.sl (List.length (canon (Prod.snd (n.2.1)))) 1 (natG .u32 (canon (Prod.snd (n.2.1)))), AV.sl (List.length (canon (Prod.snd (n.2.2)))) 1 (natG .u32 (canon (Prod.snd (n.2.2))))] [AV.sl (canon x.1).length 1 (natG .u32 (canon x.1)), AV.sl (canon x.2).length 1 (natG .u32 (canon x.2))] ∧ List.length (canon x.1) < 100000 ∧ List.length (canon x.2) < 100000 ∧ 0 < x.2) fun n_1 => .all (fun (r : Nat × Nat) => r = (n_1.1 / n_1.2, n_1.1 % n_1.2)) fun n_2 => .ite (bif Prod.fst (n.2.1) then decide ((0 : Int) < (↑(canon n_2.2).length : Int)) else false) (.ex (fun (x : Nat × Nat) => eqL [AV.sl (canon n_2.1).length 1 (natG .u32 (canon n_2.1)), AV.sl 1 1 (zj (zf 1 [AV.int .u32 1]) 0)] [AV.sl (canon x.1).length 1 (natG .u32 (canon x.1)), AV.sl (canon x.2).length 1 (natG .u32 (canon x.2))] ∧ List.length (canon x.1) < 100000 ∧ List.length (canon x.2) < 100000) fun n_3 => .all (fun (d : Nat) => d = n_3.1 + n_3.2) fun n_4 => .ex (fun (x : Nat × Nat) => eqL [AV.sl (List.length (canon (Prod.snd (n.2.2)))) 1 (natG .u32 (canon (Prod.snd (n.2.2)))), AV.sl (canon n_2.2).length 1 (natG .u32 (canon n_2.2))] [AV.sl (canon x.1).length 1 (natG .u32 (canon x.1)), AV.sl (canon x.2).length 1 (natG .u32 (canon x.2))] ∧ fits x.1 ∧ x.2 ≤ x.1) fun n_5 => .all (fun (d : Nat) => d = n_5.1 - n_5.2) fun n_6 => .ex (fun (x : Bool × Nat) => eqL [AV.agg [AV.bool !Prod.fst (n.2.1) == Prod.fst (n.2.2), AV.sl (canon n_4).length 1 (natG .u32 (canon n_4))]] [AV.agg [AV.bool x.1, AV.sl (canon x.2).length 1 (natG .u32 (canon x.2))]] ∧ List.length (canon x.2) < 1000000) fun n_7 => .all (fun (r : List UInt8 × Int) => r = wr n_7.1 n_7.2) fun n_8 => .ite (!decide (n_8.2 = 0)) (.leaf (.ret [.str (Array.toList #[]), .str (Array.toList #[]), .int .i64 n_8.2] [.box [.bool (Prod.fst (n.2.1)), .sl (List.length (canon (Prod.snd (n.2.1)))) 1 (natG .u32 (canon (Prod.snd (n.2.1))))], .box [.bool (Prod.fst (n.2.2)), .sl (List.length (canon (Prod.snd (n.2.2)))) 1 (natG .u32 (canon (Prod.snd (n.2.2))))], .arr 1 1 (zf 1 [.int .u32 1])])) (.ex (fun (x : Bool × Nat) => eqL [AV.agg [AV.bool false, AV.sl (canon n_6).length 1 (natG .u32 (canon n_6))]] [AV.agg [AV.bool x.1, AV.sl (canon x.2).length 1 (natG .u32 (canon x.2))]] ∧ List.length (canon x.2) < 1000000) fun n_9 => .all (fun (r : List UInt8 × Int) => r = wr n_9.1 n_9.2) fun n_10 => .leaf (.ret [.str n_8.1, .str n_10.1, .int .i64 0] [.box [.bool (Prod.fst (n.2.1)), .sl (List.length (canon (Prod.snd (n.2.1)))) 1 (natG .u32 (canon (Prod.snd (n.2.1))))], .box [.bool (Prod.fst (n.2.2)), .sl (List.length (canon (Prod.snd (n.2.2)))) 1 (natG .u32 (canon (Prod.snd (n.2.2))))], .arr 1 1 (zf 1 [.int .u32 1])]))) (.ex (fun (x : Bool × Nat) => eqL [AV.agg [AV.bool !Prod.fst (n.2.1) == Prod.fst (n.2.2), AV.sl (canon n_2.1).length 1 (natG .u32 (canon n_2.1))]] [AV.agg [AV.bool x.1, AV.sl (canon x.2).length 1 (natG .u32 (canon x.2))]] ∧ List.length (canon x.2) < 1000000) fun n_3 => .all (fun (r : List UInt8 × Int) => r = wr n_3.1 n_3.2) fun n_4 => .ite (!decide (n_4.2 = 0)) (.leaf (.ret [.str (Array.toList #[]), .str (Array.toList #[]), .int .i64 n_4.2] [.box [.bool (Prod.fst (n.2.1)), .sl (List.length (canon (Prod.snd (n.2.1)))) 1 (natG .u32 (canon (Prod.snd (n.2.1))))], .box [.bool (Prod.fst (n.2.2)), .sl (List.length (canon (Prod.snd (n.2.2)))) 1 (natG .u32 (canon (Prod.snd (n.2.2))))]])) (.ex (fun (x : Bool × Nat) => eqL [AV.agg [AV.bool false, AV.sl (canon n_2.2).length 1 (natG .u32 (canon n_2.2))]] [AV.agg [AV.bool x.1, AV.sl (canon x.2).length 1 (natG .u32 (canon x.2))]] ∧ List.length (canon x.2) < 1000000) fun n_5 => .all (fun (r : List UInt8 × Int) => r = wr n_5.1 n_5.2) fun n_6 => .leaf (.ret [.str n_4.1, .str n_6.1, .int .i64 0] [.box [.bool (Prod.fst (n.2.1)), .sl (List.length (canon (Prod.snd (n.2.1)))) 1 (natG .u32 (canon (Prod.snd (n.2.1))))], .box [.bool (Prod.fst (n.2.2)), .sl (List.length (canon (Prod.snd (n.2.2)))) 1 (natG .u32 (canon (Prod.snd (n.2.2))))]])))))) (by kernel_rfl) ?_
 simp only [Tree.holds, ze]
 refine ⟨(s, t), ⟨by simp, by omega, by omega⟩, ⟨_, rfl⟩, ?_⟩
 rintro _ rfl
 simp only
 by_cases he : zq s t = 0
 ·obtain ⟨e1, e2⟩ := zk.1 he
  have c1 := qm (jr e1) (by decide)
  have c2 := qm (jr e2) (by decide)
  simp only [if_pos he]
  refine ⟨fun h => (by simp at h), fun _ => ?_⟩
  refine ⟨fun h0 => ?_, fun h0 => ?_⟩
  ·have h0 : numI t = 0 := x3.1 (by have := of_decide_eq_true h0; omega)
   have e : dmI s t = ([], [], 16) := by rw [dmI, if_neg (by rw [he]; decide), if_pos h0]
   rw [e] at hq
   exact RetR.scal hq rfl (by simp [resV])
  have h0 : numI t ≠ 0 := fun h => of_decide_eq_false h0 (by rw [x3.2 h]; rfl)
  have e : dmI s t = ((wr (negI s != negI t) (dmQ s t)).1, (wr false (dmM s t)).1, 0) := by rw [dmI, if_neg (by rw [he]; decide), if_neg h0]
  rw [e] at hq
  have rq := Vw e1 h0
  have rm := WS (s := s) e2 h0
  have eL : ∀ a b : Nat, eqL [AV.sl (canon a).length 1 (natG .u32 (canon a)), AV.sl (canon b).length 1 (natG .u32 (canon b))] [AV.sl (canon a).length 1 (natG .u32 (canon a)), AV.sl (canon b).length 1 (natG .u32 (canon b))] := fun a b => ⟨⟨rfl, rfl, zc _ _ _⟩, ⟨rfl, rfl, zc _ _ _⟩, trivial⟩
  have eV : ∀ (b : Bool) (a : Nat), eqL [.agg [AV.bool b, AV.sl (canon a).length 1 (natG .u32 (canon a))]] [.agg [AV.bool b, AV.sl (canon a).length 1 (natG .u32 (canon a))]] := fun b a => ⟨⟨rfl, ⟨rfl, rfl, zc _ _ _⟩, trivial⟩, trivial⟩
  have big : ∀ {a : Nat}, room a → (canon a).length < 1000000 := fun {a} h => by
   obtain ⟨h3, h4, _⟩ := uz (wG (neg := false) h)
   have := qm (jr h3) (by decide)
   rw [h4] at this; omega
  refine ⟨(numI s, numI t), ⟨eL _ _, c1, c2, Nat.pos_of_ne_zero h0⟩, ⟨_, rfl⟩, ?_⟩
  rintro _ rfl
  simp only
  rw [Zd]
  have hmod := Nat.mod_lt (numI s) (Nat.pos_of_ne_zero h0)
  refine ⟨fun hc => ?_, fun hc => ?_⟩
  ·have hc : negI s = true ∧ 0 < numI s % numI t := by
    cases hn : negI s with
    | false => rw [hn] at hc; cases hc
    | true => rw [hn] at hc; exact ⟨rfl, of_decide_eq_true hc⟩
   have eQ : dmQ s t = numI s / numI t + 1 := if_pos hc
   have eM : dmM s t = numI t - numI s % numI t := if_pos hc
   rw [eQ, eM] at hq
   rw [eQ] at rq
   rw [eM] at rm
   have hone : canon 1 = [1] := by
    rw [qV (by decide)]
    exact congrArg (1 :: ·) zH
   have rdiv := room_le (Nat.div_le_self (numI s) (numI t)) (qU e1)
   have hdl : (canon (numI s / numI t)).length < 100000 := by
    have := qm (Nat.lt_of_le_of_lt (Nat.div_le_self (numI s) (numI t)) (jr e1)) (by decide)
    exact this
   refine ⟨(numI s / numI t, 1), ⟨⟨⟨rfl, rfl, zc _ _ _⟩, ⟨by rw [hone]; rfl, rfl, ?_⟩, trivial⟩, hdl, by show (canon 1).length < 100000; rw [hone]; decide⟩, ⟨_, rfl⟩, ?_⟩
   ·intro j o hj ho
    have : j = 0 := by omega
    subst this
    have : o = 0 := by omega
    subst this
    show AV.int .u32 1 = .int .u32 (((canon 1).getD 0 0 : Nat) : Int)
    rw [hone]; rfl
   rintro _ rfl
   refine ⟨(numI t, numI s % numI t), ⟨eL _ _, by show (canon (numI t)).length < 1000000; omega, by show numI s % numI t ≤ numI t; omega⟩, ⟨_, rfl⟩, ?_⟩
   rintro _ rfl
   refine ⟨(negI s != negI t, numI s / numI t + 1), ⟨eV _ _, big rq⟩, ⟨_, rfl⟩, ?_⟩
   rintro _ rfl
   have hz := wG (neg := (negI s != negI t)) rq
   refine ⟨fun h => by simp [hz] at h, fun _ => ⟨(false, numI t - numI s % numI t), ⟨eV _ _, big rm⟩, ⟨_, rfl⟩, ?_⟩⟩
   rintro _ rfl
   exact RetR.scal hq rfl (by simp [resV])
  ·have hc : ¬ (negI s = true ∧ 0 < numI s % numI t) := by
    rintro ⟨g1, g2⟩
    rw [g1, decide_eq_true g2] at hc
    cases hc
   have eQ : dmQ s t = numI s / numI t := if_neg hc
   have eM : dmM s t = numI s % numI t := if_neg hc
   rw [eQ, eM] at hq
   rw [eQ] at rq
   rw [eM] at rm
   refine ⟨(negI s != negI t, numI s / numI t), ⟨eV _ _, big rq⟩, ⟨_, rfl⟩, ?_⟩
   rintro _ rfl
   have hz := wG (neg := (negI s != negI t)) rq
   refine ⟨fun h => by simp [hz] at h, fun _ => ⟨(false, numI s % numI t), ⟨eV _ _, big rm⟩, ⟨_, rfl⟩, ?_⟩⟩
   rintro _ rfl
   exact RetR.scal hq rfl (by simp [resV])
 ·simp only [if_neg he]
  refine ⟨fun _ => ?_, fun h => (by simp [he] at h)⟩
  have e : dmI s t = ([], [], zq s t) := if_pos he
  rw [e] at hq
  exact RetR.scal hq rfl (by simp [resV])
def UX : Ctr := ctrP true (fun s : List UInt8 => [.str s]) (fun s => s.length < 2 ^ 62) (fun s r => r = if errR s = 0 then (numR s, denR s, 0) else ([], [], errR s)) (fun _ (r : List UInt8 × List UInt8 × Int) => (.tup [.str r.1, .str r.2.1, .int .i64 r.2.2], []))
noncomputable def GPa : Nat → Option Ctr := fun f => if f = 30 then some (km) else if f = 47 then some (KG) else none
theorem ze2 : ∀ g c, GPa g = some c → zg Tryz.prog g c := okIf wK (okIf WK (zp))
theorem U3 : zg Tryz.prog 51 UX := by
 refine zi (fn := Tryz.f51) (c := Tryz.f51.body.getD .skip) rfl rfl rfl fun s hs O w0 Q hq => ?_
 replace hq := hq _ rfl
 refine zd.run hmix ze2 [] 400 (T := .ex (fun (x : List UInt8) => eqL [AV.str s] [AV.str x] ∧ x.length < 4611686018427387904) fun n => .all (fun (r : Int) => r = errR n) fun n => .ite (!decide (n = 0)) (.leaf (.ret [.str (Array.toList #[]), .str (Array.toList #[]), .int .i64 n] [])) (.ex (fun (x : List UInt8) => eqL [AV.str s] [AV.str x] ∧ x.length < 4611686018427387904) fun n => .all (fun (r : List UInt8 × List UInt8 × Bool) => r = cutR n) fun n => .ite (!Prod.snd n.2) (.leaf (.ret [.str n.1, .str (Array.toList #[(49 : UInt8)]), .int .i64 0] [])) (.leaf (.ret [.str n.1, .str (n.2.1), .int .i64 0] [])))) (by kernel_rfl) ?_
 simp only [Tree.holds, ze]
 refine ⟨s, ⟨by simp, hs⟩, ⟨_, rfl⟩, ?_⟩
 rintro _ rfl
 refine ⟨fun h => ?_, fun h => ⟨s, ⟨by simp, hs⟩, ⟨_, rfl⟩, ?_⟩⟩
 ·have h : errR s ≠ 0 := by simpa using h
  rw [if_neg h] at hq
  exact RetR.scal hq rfl (by simp [resV])
 ·have h : errR s = 0 := by simpa using h
  rw [if_pos h] at hq
  rintro _ rfl
  refine ⟨fun g => ?_, fun g => ?_⟩
  ·have e : denR s = [49] := by unfold denR; rw [if_neg (by simpa using g)]
   rw [e] at hq
   exact RetR.scal hq rfl (by simp [resV, numR])
  ·have e : denR s = (cutR s).2.1 := by unfold denR; rw [if_pos (by simpa using g)]
   rw [e] at hq
   exact RetR.scal hq rfl (by simp [resV, numR])
def XF : Ctr := ctrP true (fun p : List UInt8 × List UInt8 => [.str p.1, .str p.2]) (fun p => p.1.length < 2 ^ 62 ∧ p.2.length < 2 ^ 62) (fun p r => r = qJ p.1 p.2) (fun _ r => (.tup [.str r.1, .int .i64 r.2], []))
noncomputable def GMk : Nat → Option Ctr := fun f => if f = 50 then some (gcdC) else if f = 83 then some (dmC) else none
theorem zfh : ∀ g c, GMk g = some c → zg Tryz.prog g c := okIf YX (okIf Yo (zp))
theorem zcj : zg Tryz.prog 57 XF := by
 refine zi (fn := Tryz.f57) (c := Tryz.f57.body.getD .skip) rfl rfl rfl fun p hp O w0 Q hq => ?_
 obtain ⟨s, t⟩ := p
 obtain ⟨hs, ht⟩ := hp
 replace hq := hq _ rfl
 simp only at hs ht hq
 refine zd.run hmix zfh [] 400 (T := .ex (fun (x : List UInt8 × List UInt8) => eqL [AV.str s, AV.str t] [AV.str x.1, AV.str x.2] ∧ x.1.length < 4611686018427387904 ∧ x.2.length < 4611686018427387904) fun n => .all (fun (r : List UInt8 × Int) => r = gcdR n.1 n.2) fun n => .ite (!decide (n.2 = 0)) (.leaf (.ret [.str (Array.toList #[]), .int .i64 n.2] [])) (.ite (decide (t = Array.toList #[(48 : UInt8)])) (.leaf (.ret [.str (Array.toList #[]), .int .i64 16] [])) (.side ((0 : Int) ≤ 0 ∧ (0 : Int) < t.length) (.ite (decide ((↑(UInt8.toNat (List.getD t 0 (0 : UInt8))) : Int) = 45)) (.side (1 + n.1.length ≤ 9223372036854775807) (.ex (fun (x : List UInt8 × List UInt8) => eqL [AV.str s, AV.str (Array.toList #[(45 : UInt8)] ++ n.1)] [AV.str x.1, AV.str x.2] ∧ x.1.length < 4611686018427387904 ∧ x.2.length < 4611686018427387904) fun n_1 => .all (fun (r : List UInt8 × List UInt8 × Int) => r = dmI n_1.1 n_1.2) fun n_2 => .ex (fun (x : List UInt8 × List UInt8) => eqL [AV.str t, AV.str (Array.toList #[(45 : UInt8)] ++ n.1)] [AV.str x.1, AV.str x.2] ∧ x.1.length < 4611686018427387904 ∧ x.2.length < 4611686018427387904) fun n => .all (fun (r : List UInt8 × List UInt8 × Int) => r = dmI n.1 n.2) fun n => .ite (decide (n.1 = Array.toList #[(49 : UInt8)])) (.leaf (.ret [.str n_2.1, .int .i64 0] [])) (.side (n_2.1.length + 1 ≤ 9223372036854775807) (.side (List.length (n_2.1 ++ Array.toList #[(47 : UInt8)]) + n.1.length ≤ 9223372036854775807) (.leaf (.ret [.str (n_2.1 ++ Array.toList #[(47 : UInt8)] ++ n.1), .int .i64 0] [])))))) (.ex (fun (x : List UInt8 × List UInt8) => eqL [AV.str s, AV.str n.1] [AV.str x.1, AV.str x.2] ∧ x.1.length < 4611686018427387904 ∧ x.2.length < 4611686018427387904) fun n_1 => .all (fun (r : List UInt8 × List UInt8 × Int) => r = dmI n_1.1 n_1.2) fun n_2 => .ex (fun (x : List UInt8 × List UInt8) => eqL [AV.str t, AV.str n.1] [AV.str x.1, AV.str x.2] ∧ x.1.length < 4611686018427387904 ∧ x.2.length < 4611686018427387904) fun n => .all (fun (r : List UInt8 × List UInt8 × Int) => r = dmI n.1 n.2) fun n => .ite (decide (n.1 = Array.toList #[(49 : UInt8)])) (.leaf (.ret [.str n_2.1, .int .i64 0] [])) (.side (n_2.1.length + 1 ≤ 9223372036854775807) (.side (List.length (n_2.1 ++ Array.toList #[(47 : UInt8)]) + n.1.length ≤ 9223372036854775807) (.leaf (.ret [.str (n_2.1 ++ Array.toList #[(47 : UInt8)] ++ n.1), .int .i64 0] []))))))))) (by kernel_rfl) ?_
 simp only [Tree.holds, ze, inR, lo, hi, Int.toNat_natCast]
 refine ⟨(s, t), ⟨by simp, by omega, by omega⟩, ⟨_, rfl⟩, ?_⟩
 rintro _ rfl
 by_cases he : zq s t = 0
 ·obtain ⟨e1, e2⟩ := zk.1 he
  have eg : gcdR s t = wr false (Nat.gcd (numI s) (numI t)) := if_pos he
  by_cases h0 : numI t = 0
  ·have ht0 : t = [48] := (wY e2).2 h0
   have hg0 : Nat.gcd (numI s) (numI t) = numI s := by rw [h0, Nat.gcd_zero_right]
   have hz : (gcdR s t).2 = 0 := by rw [eg, hg0]; exact wG (qU e1)
   have e : qJ s t = ([], 16) := by rw [qJ, if_neg (by rw [he]; decide), if_pos h0]
   rw [e] at hq
   refine ⟨fun h => (by simp [hz] at h), fun _ => ⟨fun _ => RetR.scal hq rfl (by simp [resV]), fun h => (by simp [ht0] at h)⟩⟩
  ·obtain ⟨g0, gr⟩ := Z3 (s := s) e2 h0
   have hz : (gcdR s t).2 = 0 := by rw [eg]; exact wG gr
   have ht0 : t ≠ [48] := fun h => h0 ((wY e2).1 h)
   have htn : t ≠ [] := by rintro rfl; simp [ZV] at e2
   have hneg := yY htn
   have e : qJ s t = (Q8 (negI s != negI t) (numI s) (numI t), 0) := by rw [qJ, if_neg (by rw [he]; decide), if_neg h0]
   rw [e, Q8] at hq
   have ds : Nat.gcd (numI s) (numI t) ∣ numI s := Nat.gcd_dvd_left _ _
   have dt : Nat.gcd (numI s) (numI t) ∣ numI t := Nat.gcd_dvd_right _ _
   generalize hgg : Nat.gcd (numI s) (numI t) = g at *
   have rt := room_le (Nat.div_le_self (numI t) g) (qU e2)
   have l1 := jP false g
   have l2 := jP true g
   have fin : ∀ b : Bool, b = negI t → ∀ (z w : List UInt8 × List UInt8 × Int), z = dmI s (wr b g).1 → w = dmI t (wr b g).1 →
     (decide (w.1 = [49]) = true → RetR XF 0 Q [.str z.1, .int .i64 0] []) ∧ (decide (w.1 = [49]) = false → z.1.length + 1 ≤ 9223372036854775807 ∧ (z.1.length + 1 ≤ 9223372036854775807 → (z.1 ++ [47]).length + w.1.length ≤ 9223372036854775807 ∧ ((z.1 ++ [47]).length + w.1.length ≤ 9223372036854775807 → RetR XF 0 Q [.str (z.1 ++ [47] ++ w.1), .int .i64 0] []))) := by
    rintro b rfl z w rfl rfl
    rw [y9 e1 g0 gr ds, y9 e2 g0 gr dt]
    simp only
    have : (negI t != negI t) = false := by simp
    rw [this]
    have k1 := jP (negI s != negI t) (numI s / g)
    have k2 := jP false (numI t / g)
    refine ⟨fun h => ?_, fun h => ⟨by omega, fun _ => ⟨by simp; omega, fun _ => ?_⟩⟩⟩
    ·have h1 := (Z6 rt).1 (of_decide_eq_true h)
     rw [if_pos h1] at hq
     exact RetR.scal hq rfl (by simp [resV])
    ·have h1 : ¬ numI t / g = 1 := fun h1 => of_decide_eq_false h ((Z6 rt).2 h1)
     rw [if_neg h1] at hq
     exact RetR.scal hq rfl (by simp [resV])
   rw [eg] at hz ⊢
   refine ⟨fun h => (by simp [hz] at h), fun _ => ⟨fun h => absurd (of_decide_eq_true h) ht0, fun _ => ⟨⟨by omega, by have := List.length_pos_iff.2 htn; omega⟩, fun _ => ⟨fun hb => ⟨by omega, fun _ => ?_⟩, fun hb => ?_⟩⟩⟩⟩
   ·have hn : negI t = true := by
     rw [hneg, decide_eq_true_eq]
     exact yr (of_decide_eq_true hb)
    rw [zbt g0 gr]
    refine ⟨(s, (wr true g).1), ⟨by simp, by show s.length < _; omega, by show (wr true g).1.length < _; omega⟩, ⟨_, rfl⟩, ?_⟩
    intro z hz
    refine ⟨(t, (wr true g).1), ⟨by simp, by show t.length < _; omega, by show (wr true g).1.length < _; omega⟩, ⟨_, rfl⟩, ?_⟩
    intro w hw
    exact fin true hn.symm z w hz hw
   ·have hn : negI t = false := by
     rw [hneg, decide_eq_false_iff_not]
     intro h
     apply of_decide_eq_false hb
     rw [h]; rfl
    refine ⟨(s, (wr false g).1), ⟨by simp, by show s.length < _; omega, by show (wr false g).1.length < _; omega⟩, ⟨_, rfl⟩, ?_⟩
    intro z hz
    refine ⟨(t, (wr false g).1), ⟨by simp, by show t.length < _; omega, by show (wr false g).1.length < _; omega⟩, ⟨_, rfl⟩, ?_⟩
    intro w hw
    exact fin false hn.symm z w hz hw
 ·have eg : gcdR s t = ([], zq s t) := if_neg he
  have e : qJ s t = ([], zq s t) := if_pos he
  rw [e] at hq
  rw [eg]
  exact ⟨fun _ => RetR.scal hq rfl (by simp [resV]), fun h => by simp [he] at h⟩
end Go.Proofs.Tryz
end

/- Nil slices of a result, handed back as own empty ones. -/
section
namespace Go.Sx
variable [Stat]
section
variable {own own' O : Nat → Prop} {w w' : World} {σ σ' : List SE} {P : Program} {fn : Func}
def upA0 (d k : Nat) : AV → AV → Prop
 | .nils, .osl i _ off n => (d ≤ i ∧ i < d + k) ∧ off = 0 ∧ n = 0
 | a, b => a = b
def upL0 (d k : Nat) : List AV → List AV → Prop
 | [], [] => True
 | a :: l, b :: m => upA0 d k a b ∧ upL0 d k l m
 | _, _ => False
def upA1 (d k : Nat) : AV → AV → Prop
 | .agg l, .agg m => upL0 d k l m
 | a, b => upA0 d k a b
def upL1 (d k : Nat) : List AV → List AV → Prop
 | [], [] => True
 | a :: l, b :: m => upA1 d k a b ∧ upL1 d k l m
 | _, _ => False
def upA2 (d k : Nat) : AV → AV → Prop
 | .tup l, .tup m => upL1 d k l m
 | a, b => upA1 d k a b
def jJ (k : Nat) : List SE := List.replicate k ⟨none, 0⟩
theorem u6.mono {g : Nat} {vals : Array Value} {R R' : Value → World → Prop} (hR : ∀ v w', R v w' → R' v w') (h : u6 P g vals w R) : u6 P g vals w R' := by
 rcases h with ⟨h1, h2⟩ | ⟨v, w', h1, h2⟩
 ·exact .inl ⟨h1, h2.mono fun e w' ⟨v, he, hv⟩ => ⟨v, he, hR v w' hv⟩⟩
 ·exact .inr ⟨v, w', h1, hR v w' h2⟩
theorem qY {k i : Nat} {e : SE} (h : (σ ++ jJ k)[i]? = some e) : (i < σ.length ∧ σ[i]? = some e) ∨ (σ.length ≤ i ∧ e = ⟨none, 0⟩) := by
 rw [List.getElem?_append] at h
 split at h
 ·rename_i hi; exact .inl ⟨hi, h⟩
 ·rename_i hi
  right
  refine ⟨by omega, ?_⟩
  simp only [jJ, List.getElem?_replicate] at h
  split at h
  ·cases h; rfl
  ·cases h
theorem ZF {k b : Nat} (h : Mine (σ ++ jJ k) b) : Mine σ b := by
 obtain ⟨e, he, ad, h1, h2⟩ := h
 rcases List.mem_append.1 he with he | he
 ·exact ⟨e, he, ad, h1, h2⟩
 ·have := List.eq_of_mem_replicate he
  subst this
  cases h1
theorem ug {k b : Nat} (h : Own O (σ ++ jJ k) b) : Own O σ b := by
 rcases h with h | h
 ·exact .inl h
 ·exact .inr (ZF h)
theorem vf (K : List Nat) (w : World) (σ : List SE) (k : Nat) : Hold K w σ w (σ ++ jJ k) := fun i e he _ => by
 have hi := (List.getElem?_eq_some_iff.1 he).1
 exact ⟨by rw [List.getElem?_append_left hi]; exact he, fun ad _ cs el h => ⟨cs, el, h, rfl⟩⟩
theorem Jl {k : Nat} (hx : Ext own w own' w) {a b : AV} {v : Value} (hu : upA0 σ.length k a b) (ha : Rep own w a σ v) : Rep own' w b (σ ++ jJ k) v := by
 unfold upA0 at hu
 split at hu
 ·obtain ⟨⟨h1, h2⟩, rfl, rfl⟩ := hu
  rename_i i sz _ _
  simp only [Rep] at ha ⊢
  refine ⟨⟨none, 0⟩, ?_, by simp, none, 0, ha, Nat.le_refl _, .inl rfl⟩
  rw [List.getElem?_append_right h1, jJ, List.getElem?_replicate, if_pos (by omega)]
 ·subst hu
  exact qo (K := []) hx (vf [] w σ k) _ _ (jx _) ha
theorem Zl {k : Nat} (hx : Ext own w own' w) : ∀ {l m : List AV} {vs : List Value}, upL0 σ.length k l m → RepL own w l σ vs → RepL own' w m (σ ++ jJ k) vs
 | [], [], vs, _, h => by simpa [RepL] using h
 | a :: l, b :: m, vs, hl, h => by
  simp only [RepL] at h ⊢
  obtain ⟨v, r, hv, h1, h2⟩ := h
  exact ⟨v, r, hv, Jl hx hl.1 h1, Zl hx hl.2 h2⟩
 | [], _ :: _, _, hl, _ => hl.elim
 | _ :: _, [], _, hl, _ => hl.elim
theorem Q7 {k : Nat} (hx : Ext own w own' w) {a b : AV} {v : Value} (hu : upA1 σ.length k a b) (ha : Rep own w a σ v) : Rep own' w b (σ ++ jJ k) v := by
 unfold upA1 at hu
 split at hu
 ·simp only [Rep] at ha ⊢
  obtain ⟨vs, hv, hr⟩ := ha
  exact ⟨vs, hv, Zl hx hu hr⟩
 ·exact Jl hx hu ha
theorem xK {k : Nat} (hx : Ext own w own' w) : ∀ {l m : List AV} {vs : List Value}, upL1 σ.length k l m → RepL own w l σ vs → RepL own' w m (σ ++ jJ k) vs
 | [], [], vs, _, h => by simpa [RepL] using h
 | a :: l, b :: m, vs, hl, h => by
  simp only [RepL] at h ⊢
  obtain ⟨v, r, hv, h1, h2⟩ := h
  exact ⟨v, r, hv, Q7 hx hl.1 h1, xK hx hl.2 h2⟩
 | [], _ :: _, _, hl, _ => hl.elim
 | _ :: _, [], _, hl, _ => hl.elim
theorem QO {k : Nat} (hx : Ext own w own' w) {a b : AV} {v : Value} (hu : upA2 σ.length k a b) (ha : Rep own w a σ v) : Rep own' w b (σ ++ jJ k) v := by
 unfold upA2 at hu
 split at hu
 ·simp only [Rep] at ha ⊢
  obtain ⟨vs, hv, hr⟩ := ha
  exact ⟨vs, hv, xK hx hu hr⟩
 ·exact Q7 hx hu ha
def vM (szs : List (Nat × (Nat → Nat → AV))) : Heap := szs.map fun s => .arr 0 s.1 s.2
theorem zdd (hx : Ext own w own' w) {hs : Heap} (hh : HRep own w σ hs) (szs : List (Nat × (Nat → Nat → AV))) : HRep own' w (σ ++ jJ szs.length) (hs ++ vM szs) := by
 have hl := hh.len
 refine ⟨by simp [jJ, vM, hl], fun i j e f a b he hf ha hb hij => ?_, fun i e a he ha => ?_, fun i e b he hb => ?_⟩
 ·rcases qY he with ⟨_, he⟩ | ⟨_, rfl⟩
  ·rcases qY hf with ⟨_, hf⟩ | ⟨_, rfl⟩
   ·exact hh.inj i j e f a b he hf ha hb hij
   ·cases hb
  ·cases ha
 ·rcases qY he with ⟨_, he⟩ | ⟨_, rfl⟩
  ·exact hh.lt i e a he ha
  ·cases ha
 ·rcases qY he with ⟨hi, he⟩ | ⟨hi, rfl⟩
  ·rw [List.getElem?_append_left (by omega)] at hb
   have := qW (K := []) hx (vf [] w σ szs.length) (hh.blk i e b he hb) (fun _ _ => rfl)
   rwa [jd] at this
  ·rw [List.getElem?_append_right (by omega)] at hb
   simp only [vM, List.getElem?_map] at hb
   cases hz : szs[i - hs.length]? with
   | none => simp [hz] at hb
   | some s =>
    simp only [hz, Option.map_some, Option.some.injEq] at hb
    subst hb
    exact ⟨rfl, .inl rfl⟩
def upQ (Q : AV × Heap → Prop) (p : AV × Heap) : Prop := Q p ∨ ∃ (r : AV) (szs : List (Nat × (Nat → Nat → AV))), upA2 p.2.length szs.length p.1 r ∧ Q (r, p.2 ++ vM szs)
theorem j5.up {g : Nat} {c : Ctr} {args : List AV} {hc : Heap} {Q : AV × Heap → Prop} (h : j5 P g c args hc (upQ Q)) : j5 P g c args hc Q := by
 intro O w σ vals hg hh hr
 refine u6.mono ?_ (h O w σ vals hg hh hr)
 rintro v w' ⟨r, hs, σ', hq, h1, h2, h3, h4, h5, h6⟩
 rcases hq with hq | ⟨r', szs, hu, hq⟩
 ·exact ⟨r, hs, σ', hq, h1, h2, h3, h4, h5, h6⟩
 ·have hx : Ext (fun b => Own O σ' b ∨ (c.fresh = true ∧ b < w.heap.size)) w' (fun b => Own O (σ' ++ jJ szs.length) b ∨ (c.fresh = true ∧ b < w.heap.size)) w' :=
   ⟨rfl, rfl, rfl, Nat.le_refl _, fun _ _ _ => rfl, fun b hb => .inl (hb.imp ug id)⟩
  have hl : hs.length = σ'.length := h2.len.symm
  refine ⟨r', hs ++ vM szs, σ' ++ jJ szs.length, hq, QO hx (by rw [← hl]; exact hu) h1, zdd hx h2 szs, ⟨h3.old, fun i e ad he had => ?_, h3.stat.own fun b hb => ug hb⟩, by simp; omega, h5.V2 (vf [] w' σ' _), ?_⟩
  ·rcases qY he with ⟨_, he⟩ | ⟨_, rfl⟩
   ·exact h3.dis i e ad he had
   ·cases had
  ·exact ⟨h6.os, h6.tape, h6.output, h6.size, h6.keep, fun b hb => h6.grow b (ZF hb)⟩
theorem Zc {X R : Type} {fresh : Bool} {inp : X → List AV} {pre : X → Prop} {post : X → R → Prop} {out : X → R → AV × Heap} {g : Nat} {c : Code} (hf : P.funcs[g]? = some fn) (hb : fn.body = some c) (hn : (fn.name == "runtime.NumGoroutine") = false)
  (H : ∀ x, pre x → ∀ (O : Nat → Prop) (w0 : World) (Q : AV × Heap → Prop), (∀ r, post x r → Q (out x r)) →
   zd P fn O 0 w0 [] (fun _ _ _ => False) (RetR (ctrP fresh inp pre post out) 0 (upQ Q)) [.code c] (entry fn (inp x))) : zg P g (ctrP fresh inp pre post out) := by
 intro args hc Q hq _
 simp only [ctrP] at hq
 split at hq
 ·obtain ⟨x, ⟨h1, h4⟩, h5, h6⟩ := hq
  refine j5.le h1 (j5.up (fn_k hf hb hn (fun h => rfl) fun O w0 σ0 hl => ?_))
  have h0 : σ0 = [] := List.length_eq_zero_iff.1 (by simpa using hl)
  subst h0
  exact H x h4 O w0 Q h6
 ·exact hq.elim
def upKV (d k : Nat) : KV → KV → Prop
 | [], [] => True
 | (i, a) :: l, (j, b) :: m => i = j ∧ upA2 d k a b ∧ upKV d k l m
 | _, _ => False
def upB (d k : Nat) : Blk → Blk → Prop
 | .box l, .box m => upL1 d k l m
 | a, b => a = b
def upH (d k : Nat) : Heap → Heap → Prop
 | [], [] => True
 | b :: l, c :: m => upB d k b c ∧ upH d k l m
 | _, _ => False
theorem QE {d k : Nat} : ∀ {l m : KV} (t : Nat), upKV d k l m → upA2 d k (look l t) (look m t)
 | [], [], t, _ => by simp [look, upA2, upA1, upA0]
 | (i, a) :: l, (j, b) :: m, t, h => by
  obtain ⟨rfl, h1, h2⟩ := h
  simp only [look]
  split
  ·exact h1
  ·exact QE t h2
 | [], _ :: _, _, h => h.elim
 | _ :: _, [], _, h => h.elim
theorem Xf {d k : Nat} : ∀ {l m : Heap}, upH d k l m → l.length = m.length
 | [], [], _ => rfl
 | _ :: l, _ :: m, h => by simp [Xf h.2]
 | [], _ :: _, h => h.elim
 | _ :: _, [], h => h.elim
theorem XV {d k : Nat} : ∀ {l m : Heap} {i : Nat} {b' : Blk}, upH d k l m → m[i]? = some b' → ∃ b, l[i]? = some b ∧ upB d k b b'
 | b :: l, c :: m, 0, b', h, h1 => by simp at h1; subst h1; exact ⟨b, rfl, h.1⟩
 | b :: l, c :: m, i + 1, b', h, h1 => by simpa using XV h.2 (by simpa using h1)
 | [], [], _, _, _, h1 => by simp at h1
 | [], _ :: _, _, _, h, _ => h.elim
 | _ :: _, [], _, _, h, _ => h.elim
theorem Y2 {k : Nat} (hx : Ext own w own' w) {e : SE} {b b' : Blk} (hu : upB σ.length k b b') (hb : BRep own w σ e b) : BRep own' w (σ ++ jJ k) e b' := by
 unfold upB at hu
 split at hu
 ·simp only [BRep] at hb ⊢
  obtain ⟨ad, vs, el, h1, h2, h3, h4⟩ := hb
  exact ⟨ad, vs, el, h1, h2, h3, xK hx hu h4⟩
 ·subst hu
  have := qW (K := []) hx (vf [] w σ k) hb (fun _ _ => rfl)
  rwa [jd] at this
variable {pin : Nat} {w0 : World} {σ0 : List SE} {a : Act}
theorem up_mod {kv kv2 : KV} {h h2 : Heap} {n : Nat} (hm : Mod O pin w0 σ0 w σ (mk n kv h) a) {szs : List (Nat × (Nat → Nat → AV))} (hkv : upKV h.length szs.length kv kv2) (hh2 : upH h.length szs.length h h2) (hno : (pk n kv).all zJ = true) (hno2 : (pk n kv2).all zJ = true) : Mod O pin w0 σ0 w (σ ++ jJ szs.length) (mk n kv2 (h2 ++ vM szs)) a := by
 have hx : Ext (Own O σ) w (Own O (σ ++ jJ szs.length)) w := ⟨rfl, rfl, rfl, Nat.le_refl _, fun _ _ _ => rfl, fun b hb => .inl (ug hb)⟩
 have hl : h.length = σ.length := hm.hp.len.symm
 rw [hl] at hkv hh2
 have hl2 := Xf hh2
 refine ⟨⟨hm.good.old, fun i e ad he had => ?_, hm.good.stat.ext hx⟩, ?_, by simp [hm.size, mk, pk], fun u => ?_, hm.df.ext hx, hm.since.trans ⟨hx, fun _ _ _ => rfl, wQ.of (vf [] w σ _) (by simp)⟩, hm.lim⟩
 ·rcases qY he with ⟨_, he⟩ | ⟨_, rfl⟩
  ·exact hm.good.dis i e ad he had
  ·cases had
 ·have hh := hm.hp
  refine ⟨by simp [mk, jJ, vM, ← hl2, hl], fun i j e f x y he hf ha hb hij => ?_, fun i e x he ha => ?_, fun i e b he hb => ?_⟩
  ·rcases qY he with ⟨_, he⟩ | ⟨_, rfl⟩
   ·rcases qY hf with ⟨_, hf⟩ | ⟨_, rfl⟩
    ·exact hh.inj i j e f x y he hf ha hb hij
    ·cases hb
   ·cases ha
  ·rcases qY he with ⟨_, he⟩ | ⟨_, rfl⟩
   ·exact hh.lt i e x he ha
   ·cases ha
  ·simp only [mk] at hb
   rcases qY he with ⟨hi, he⟩ | ⟨hi, rfl⟩
   ·rw [List.getElem?_append_left (by omega)] at hb
    obtain ⟨b0, h1, h3⟩ := XV hh2 hb
    exact Y2 hx h3 (hh.blk i e b0 he h1)
   ·rw [List.getElem?_append_right (by omega)] at hb
    simp only [vM, List.getElem?_map] at hb
    cases hz : szs[i - h2.length]? with
    | none => simp [hz] at hb
    | some s =>
     simp only [hz, Option.map_some, Option.some.injEq] at hb
     subst hb
     exact ⟨rfl, .inl rfl⟩
 ·have hu := hm.tm u
  have key : ∀ (kv : KV) (h : Heap), (pk n kv).all zJ = true → zJ ((mk n kv h).tmps.getD u .undef) = true := by
   intro kv h hno
   by_cases hlt : u < (mk n kv h).tmps.length
   ·simp only [List.getD, List.getElem?_eq_getElem hlt, Option.getD_some]
    exact List.all_eq_true.1 hno _ (List.getElem_mem hlt)
   ·simp only [List.getD]
    rw [List.getElem?_eq_none (by omega)]; rfl
  have n1 := key kv h hno
  have n2 := key kv2 (h2 ++ vM szs) hno2
  have hr : Rep (Own O σ) w ((mk n kv h).tmps.getD u .undef) σ (a.tmps.getD u undef) := by
   generalize (mk n kv h).tmps.getD u .undef = x at hu n1
   cases x with
   | opt _ _ _ => simp [zJ] at n1
   | _ => simpa only [TRep] using hu
  have hup : upA2 σ.length szs.length ((mk n kv h).tmps.getD u .undef) ((mk n kv2 (h2 ++ vM szs)).tmps.getD u .undef) := by
   by_cases hlt : u < n
   ·simp only [mk]
    rw [vr hlt, vr hlt]
    exact QE u hkv
   ·simp [mk, pk, List.getD, hlt, upA2, upA1, upA0]
  have := QO hx hup hr
  generalize (mk n kv2 (h2 ++ vM szs)).tmps.getD u .undef = y at this n2
  cases y with
  | opt _ _ _ => simp [zJ] at n2
  | _ => simpa only [TRep] using this
theorem zd.up {M : Option Nat} {Hs : Nat → KV → Heap → Prop} {R : List AV → Heap → Prop} {k : List Item} {kv : KV} {h : Heap} (szs : List (Nat × (Nat → Nat → AV))) (kv2 : KV) (h2 : Heap) (hkv : upKV h.length szs.length kv kv2) (hh2 : upH h.length szs.length h h2) (hno : (pk fn.ntmps kv).all zJ = true) (hno2 : (pk fn.ntmps kv2).all zJ = true)
  (H : zZ M P fn O pin w0 σ0 Hs R k (mk fn.ntmps kv2 (h2 ++ vM szs))) : zZ M P fn O pin w0 σ0 Hs R k (mk fn.ntmps kv h) :=
 fun w σ a hm => H w _ a (up_mod hm hkv hh2 hno hno2)
theorem RetR.outs {ctr : Ctr} {Q : AV × Heap → Prop} {rs : List AV} {h : Heap} {r : AV} {hs : Heap} (L : List Nat) (hnd : jX L = true) (hlt : (L.all fun i => decide (i < h.length)) = true) (hq : Q (r, hs)) (hn : ctr.fresh = true → new2 h L (resV rs) ∧ ∀ i ∈ L, newB (h.getD i .dead))
  (he : eqA2 (exp2 h L (resV rs)) r) (hb : eqH (expH h L) hs) (hl : hs.length = L.length) : RetR ctr 0 Q rs h :=
 ⟨L, hnd, fun i hi => by have := List.all_eq_true.1 hlt i hi; simpa using this, by simp, hn, r, hs, q8 he, hb, hl, hq⟩
theorem RetR.keep {ctr : Ctr} {m : Nat} {Q : AV × Heap → Prop} {rs : List AV} {h : Heap} {r : AV} {hs : Heap} (L : List Nat) (hnd : jX L = true) (hlt : (L.all fun i => decide (i < h.length)) = true) (hj : ∀ j, j < m → L[j]? = some j) (hf : ctr.fresh = false) (hq : Q (r, hs))
  (he : eqA2 (exp2 h L (resV rs)) r) (hb : eqH (expH h L) hs) (hl : hs.length = L.length) : RetR ctr m Q rs h :=
 ⟨L, hnd, fun i hi => by have := List.all_eq_true.1 hlt i hi; simpa using this, hj, (fun hh => absurd hh (by rw [hf]; decide)), r, hs, q8 he, hb, hl, hq⟩
end
end Go.Sx
end

/- Rationals: pairs. -/
section
set_option maxRecDepth 100000
open Go Go.Sx Go.Proofs Go.Nov
namespace Go.Proofs.Tryz
attribute [local simp] eqKV eqA eqA0 eqH eqB eqL eqL0
noncomputable def K32 : List Go.Sx.Item := [.code (Tryz.f32.body.getD .skip)]
structure Pr where
 n : List UInt8
 m : List UInt8
 d : List UInt8
 c : List UInt8
 e : Int
def Pr.box (p : Pr) : Blk := .box [.str p.n, .str p.m, .str p.d, .str p.c, .int .i64 p.e]
def Pr.err (p : Pr) (e : Int) : Pr := ⟨p.n, p.m, p.d, p.c, e⟩
inductive QOp where
 | add | sub | mul
def QOp.fn : QOp → Nat
 | .add => 45
 | .sub => 35
 | .mul => 34
def QOp.op : QOp → List UInt8 → List UInt8 → List UInt8 × Int
 | .add => addI
 | .sub => subI
 | .mul => mulI
def jg (a b : List UInt8) : Pr := if errR a ≠ 0 then ⟨[], [], [], [], errR a⟩ else if errR b ≠ 0 then ⟨numR a, [], denR a, [], errR b⟩ else ⟨numR a, numR b, denR a, denR b, 0⟩
def KD : Ctr := ctrT false false (fun p : List UInt8 × List UInt8 => [.str p.1, .str p.2]) (fun _ => []) (fun p => p.1.length < 2 ^ 62 ∧ p.2.length < 2 ^ 62) (fun p r => r = jg p.1 p.2) (fun _ (r : Pr) => (.ptr 0 0, [r.box]))
def Kv : Ctr := ctrT false false (fun p : Pr × QOp => [.ptr 0 0, .fn p.2.fn [] []]) (fun p => [p.1.box]) (fun _ => True) (fun _ (_ : Unit) => True) (fun p _ => (.fn 52 [] [.ptr 1 0, .ptr 2 0], [p.1.box, .box [.ptr 0 0], .box [.fn p.2.fn [] []]]))
structure KX where
 p : Pr
 o : QOp
 x : List UInt8
 y : List UInt8
def J6 : Ctr := ctrT false false (fun k : KX => [.str k.x, .str k.y, .ptr 0 0, .ptr 2 0]) (fun k => [.box [.ptr 1 0], k.p.box, .box [.fn k.o.fn [] []]]) (fun k => k.x.length < 2 ^ 62 ∧ k.y.length < 2 ^ 62) (fun k r => r = if k.p.e ≠ 0 then ([], k.p.e) else k.o.op k.x k.y)
 (fun k (r : List UInt8 × Int) => (.str r.1, [.box [.ptr 1 0], (k.p.err r.2).box, .box [.fn k.o.fn [] []]]))
def Xk : Ctr := ctrT false false (fun k : Pr × List UInt8 × List UInt8 => [.ptr 0 0, .str k.2.1, .str k.2.2]) (fun k => [k.1.box]) (fun k => k.2.1.length < 2 ^ 62 ∧ k.2.2.length < 2 ^ 62) (fun k r => r = if k.1.e ≠ 0 then ([], k.1.e) else qJ k.2.1 k.2.2)
 (fun k (r : List UInt8 × Int) => (.tup [.str r.1, .int .i64 r.2], [k.1.box]))
theorem Vv : zg Tryz.prog 33 Kv := by
 refine jw (fn := Tryz.f33) (c := Tryz.f33.body.getD .skip) rfl rfl rfl (fun h => by cases h) fun p hp O w0 σ0 Q hl0 hq => ?_
 obtain ⟨p, o⟩ := p
 replace hq := hq () trivial
 refine zd.run hmix z3 [] 400 (T := .leaf (.ret [.fn 52 [] [.ptr 1 0, .ptr 2 0]] [.box [.str p.n, .str p.m, .str p.d, .str p.c, .int .i64 p.e], .box [.ptr 0 0], .box [.fn (QOp.fn o) [] []]])) (by kernel_rfl) ?_
 simp only [Tree.holds, ze]
 refine RetR.keep [0, 1, 2] rfl rfl (by show ∀ j, j < 1 → _; decide) rfl hq ?_ ?_ rfl
 ·rfl
 ·exact ⟨⟨rfl, rfl, rfl, rfl, ⟨rfl, rfl⟩, trivial⟩, ⟨⟨rfl, rfl⟩, trivial⟩, ⟨rfl, trivial⟩, trivial⟩
noncomputable def GK1 : Nat → Option Ctr := fun f => if f = 45 then some (addC) else if f = 35 then some (subC) else if f = 34 then some (mulC) else none
theorem Km : ∀ g c, GK1 g = some c → zg Tryz.prog g c := okIf ze8 (okIf zew (okIf zfa (zp)))
theorem WD : zg Tryz.prog 52 J6 := by
 refine jw (fn := Tryz.f52) (c := Tryz.f52.body.getD .skip) rfl rfl rfl (fun h => by cases h) fun k hk O w0 σ0 Q hl0 hq => ?_
 obtain ⟨⟨n, m, d, c, e⟩, o, x, y⟩ := k
 obtain ⟨h1, h2⟩ := hk
 replace hq := hq _ rfl
 simp only at h1 h2 hq
 have fin : ∀ r : List UInt8 × Int, (if e ≠ 0 then ([], e) else o.op x y) = r → RetR J6 3 Q [.str r.1] [.box [.ptr 1 0], .box [.str n, .str m, .str d, .str c, .int .i64 r.2], .box [.fn o.fn [] []]] := by
  rintro r rfl
  refine RetR.keep [0, 1, 2] rfl rfl (by show ∀ j, j < 3 → _; decide) rfl hq ?_ ?_ rfl
  ·rfl
  ·exact ⟨⟨⟨rfl, rfl⟩, trivial⟩, ⟨rfl, rfl, rfl, rfl, ⟨rfl, rfl⟩, trivial⟩, ⟨rfl, trivial⟩, trivial⟩
 cases o with
 | add =>
  refine zd.run hmix Km [] 400 (T := .ite (!decide (e = 0)) (.leaf (.ret [.str (Array.toList #[])] [.box [.ptr 1 0], .box [.str n, .str m, .str d, .str c, .int .i64 e], .box [.fn 45 [] []]])) (.ex (fun (x_1 : List UInt8 × List UInt8) => eqL [AV.str x, AV.str y] [AV.str x_1.1, AV.str x_1.2] ∧ x_1.1.length < 4611686018427387904 ∧ x_1.2.length < 4611686018427387904) fun n_1 => .all (fun (r : List UInt8 × Int) => r = addI n_1.1 n_1.2) fun n_2 => .leaf (.ret [.str n_2.1] [.box [.ptr 1 0], .box [.str n, .str m, .str d, .str c, .int .i64 n_2.2], .box [.fn 45 [] []]]))) (by kernel_rfl) ?_
  simp only [Tree.holds, ze]
  refine ⟨fun h => ?_, fun h => ⟨(x, y), ⟨by simp, h1, h2⟩, ⟨_, rfl⟩, ?_⟩⟩
  ·have h : e ≠ 0 := by simpa using h
   exact fin ([], e) (if_pos h)
  ·have h : e = 0 := by simpa using h
   rintro _ rfl
   exact fin (addI x y) (if_neg (by simp [h]))
 | sub =>
  refine zd.run hmix Km [] 400 (T := .ite (!decide (e = 0)) (.leaf (.ret [.str (Array.toList #[])] [.box [.ptr 1 0], .box [.str n, .str m, .str d, .str c, .int .i64 e], .box [.fn 35 [] []]])) (.ex (fun (x_1 : List UInt8 × List UInt8) => eqL [AV.str x, AV.str y] [AV.str x_1.1, AV.str x_1.2] ∧ x_1.1.length < 4611686018427387904 ∧ x_1.2.length < 4611686018427387904) fun n_1 => .all (fun (r : List UInt8 × Int) => r = subI n_1.1 n_1.2) fun n_2 => .leaf (.ret [.str n_2.1] [.box [.ptr 1 0], .box [.str n, .str m, .str d, .str c, .int .i64 n_2.2], .box [.fn 35 [] []]]))) (by kernel_rfl) ?_
  simp only [Tree.holds, ze]
  refine ⟨fun h => ?_, fun h => ⟨(x, y), ⟨by simp, h1, h2⟩, ⟨_, rfl⟩, ?_⟩⟩
  ·have h : e ≠ 0 := by simpa using h
   exact fin ([], e) (if_pos h)
  ·have h : e = 0 := by simpa using h
   rintro _ rfl
   exact fin (subI x y) (if_neg (by simp [h]))
 | mul =>
  refine zd.run hmix Km [] 400 (T := .ite (!decide (e = 0)) (.leaf (.ret [.str (Array.toList #[])] [.box [.ptr 1 0], .box [.str n, .str m, .str d, .str c, .int .i64 e], .box [.fn 34 [] []]])) (.ex (fun (x_1 : List UInt8 × List UInt8) => eqL [AV.str x, AV.str y] [AV.str x_1.1, AV.str x_1.2] ∧ x_1.1.length < 4611686018427387904 ∧ x_1.2.length < 4611686018427387904) fun n_1 => .all (fun (r : List UInt8 × Int) => r = mulI n_1.1 n_1.2) fun n_2 => .leaf (.ret [.str n_2.1] [.box [.ptr 1 0], .box [.str n, .str m, .str d, .str c, .int .i64 n_2.2], .box [.fn 34 [] []]]))) (by kernel_rfl) ?_
  simp only [Tree.holds, ze]
  refine ⟨fun h => ?_, fun h => ⟨(x, y), ⟨by simp, h1, h2⟩, ⟨_, rfl⟩, ?_⟩⟩
  ·have h : e ≠ 0 := by simpa using h
   exact fin ([], e) (if_pos h)
  ·have h : e = 0 := by simpa using h
   rintro _ rfl
   exact fin (mulI x y) (if_neg (by simp [h]))
noncomputable def GMd : Nat → Option Ctr := fun f => if f = 57 then some (XF) else none
theorem zfo : ∀ g c, GMd g = some c → zg Tryz.prog g c := okIf zcj (zp)
theorem XB : zg Tryz.prog 36 Xk := by
 refine jw (fn := Tryz.f36) (c := Tryz.f36.body.getD .skip) rfl rfl rfl (fun h => by cases h) fun k hk O w0 σ0 Q hl0 hq => ?_
 obtain ⟨⟨n, m, d, c, e⟩, x, y⟩ := k
 obtain ⟨h1, h2⟩ := hk
 replace hq := hq _ rfl
 simp only at h1 h2 hq
 have fin : ∀ r : List UInt8 × Int, (if e ≠ 0 then ([], e) else qJ x y) = r → RetR Xk 1 Q [.str r.1, .int .i64 r.2] [.box [.str n, .str m, .str d, .str c, .int .i64 e]] := by
  rintro r rfl
  refine RetR.keep [0] rfl rfl (by show ∀ j, j < 1 → _; decide) rfl hq ?_ ?_ rfl
  ·exact ⟨rfl, ⟨rfl, rfl⟩, trivial⟩
  ·exact ⟨⟨rfl, rfl, rfl, rfl, ⟨rfl, rfl⟩, trivial⟩, trivial⟩
 refine zd.run hmix zfo [] 400 (T := .ite (!decide (e = 0)) (.leaf (.ret [.str (Array.toList #[]), .int .i64 e] [.box [.str n, .str m, .str d, .str c, .int .i64 e]])) (.ex (fun (x_1 : List UInt8 × List UInt8) => eqL [AV.str x, AV.str y] [AV.str x_1.1, AV.str x_1.2] ∧ x_1.1.length < 4611686018427387904 ∧ x_1.2.length < 4611686018427387904) fun n_1 => .all (fun (r : List UInt8 × Int) => r = qJ n_1.1 n_1.2) fun n_2 => .leaf (.ret [.str n_2.1, .int .i64 n_2.2] [.box [.str n, .str m, .str d, .str c, .int .i64 e]]))) (by kernel_rfl) ?_
 simp only [Tree.holds, ze]
 refine ⟨fun h => ?_, fun h => ⟨(x, y), ⟨by simp, h1, h2⟩, ⟨_, rfl⟩, ?_⟩⟩
 ·have h : e ≠ 0 := by simpa using h
  exact fin ([], e) (if_pos h)
 ·have h : e = 0 := by simpa using h
  rintro _ rfl
  exact fin (qJ x y) (if_neg (by simp [h]))
def Pst (a b : List UInt8) : Nat → Pr
 | 0 => ⟨[], [], [], [], 0⟩
 | 1 => if errR a ≠ 0 then ⟨[], [], [], [], errR a⟩ else ⟨numR a, [], denR a, [], 0⟩
 | _ => jg a b
def SBq (a b : List UInt8) (i : Nat) : KV := [(5, .ptr 0 0), (12, .agg [.str a, .str b]), (13, .int .i64 (i : Int))]
noncomputable def GBq : Nat → Option Ctr := fun f => if f = 51 then some (UX) else none
theorem J7 : ∀ g c, GBq g = some c → zg Tryz.prog g c := okIf U3 (zp)
theorem W5 : zg Tryz.prog 32 KD := by
 refine jw (fn := Tryz.f32) (c := Tryz.f32.body.getD .skip) rfl rfl rfl (fun h => by cases h) fun p hp O w0 σ0 Q hl0 hq => ?_
 obtain rfl : σ0 = [] := List.length_eq_zero_iff.1 hl0
 obtain ⟨a, b⟩ := p
 obtain ⟨h1, h2⟩ := hp
 replace hq := hq _ rfl
 simp only at h1 h2 hq
 refine zd.run hmix J7 [5, 12, 13] 400 (T := .leaf (.loop (Prod.fst (lps K32 0)) (Prod.snd (lps K32 0)) [(5, .ptr 0 0), (12, .agg [.str a, .str b]), (13, .int .i64 0)] [.box [.str (Array.toList #[]), .str (Array.toList #[]), .str (Array.toList #[]), .str (Array.toList #[]), .int .i64 0]])) (by kernel_rfl) ?_
 simp only [Tree.holds, ze]
 refine zd.loop (ι := {i : Nat // i ≤ 2}) (fun i => SBq a b i.1) (fun i => [(Pst a b i.1).box]) (fun i => 2 - i.1) ⟨0, Nat.zero_le _⟩ 0 ?_ ?_ (by kernel_rfl)
 ·exact ⟨by simp [SBq], by simp [Pst, Pr.box], by kernel_rfl, Nat.zero_le _⟩
 rintro ⟨i, hil⟩
 match i, hil with
 | 0, _ =>
  refine zd.run hmix J7 [5, 12, 13] 400 (T := .ite true (.side ((0 : Int) ≤ 0 ∧ (0 : Int) < 2 ∧ 1 ≤ List.length [AV.str a, AV.str b]) (.ite true (.ex (fun (x : List UInt8) => eqL [AV.str a] [AV.str x] ∧ x.length < 4611686018427387904) fun n => .all (fun (r : List UInt8 × List UInt8 × Int) => r = if errR n = 0 then (numR n, denR n, (0 : Int)) else ([], [], errR n)) fun n => .side ((0 : Int) ≤ 0 ∧ (0 : Int) < 2) (.side ((0 : Int) ≤ 0 ∧ (0 : Int) < 2) (.side (inR .i64 (1 : Int)) (.leaf (.back 0 [(5, .ptr 0 0), (12, .agg [.str a, .str b]), (13, .int .i64 1)] [.box [.str n.1, .str [], .str (n.2.1), .str [], .int .i64 (n.2.2)]]))))) (.side (inR .i64 (1 : Int)) (.leaf (.back 0 [(5, .ptr 0 0), (12, .agg [.str a, .str b]), (13, .int .i64 1)] [.box [.str [], .str [], .str [], .str [], .int .i64 0]]))))) (.leaf (.ret [.ptr 0 0] [.box [.str [], .str [], .str [], .str [], .int .i64 0]]))) (by kernel_rfl) ?_
  simp only [Tree.holds, ze, inR, lo, hi, Int.toNat_natCast]
  refine ⟨fun _ => ⟨by simp, fun _ => ⟨fun _ => ⟨a, ⟨by simp, h1⟩, ⟨_, rfl⟩, ?_⟩, fun h => (by cases h)⟩⟩, fun h => (by cases h)⟩
  intro r hr
  refine ⟨by decide, fun _ => ⟨by decide, fun _ => ⟨by decide, fun _ => ?_⟩⟩⟩
  rw [if_pos trivial]
  refine ⟨⟨1, by decide⟩, by decide, by simp [SBq], ?_, by kernel_rfl, Nat.zero_le _⟩
  have e : Pst a b 1 = ⟨r.1, [], r.2.1, [], r.2.2⟩ := by
   rw [hr]
   by_cases h : errR a = 0
   ·simp [Pst, h]
   ·simp [Pst, h]
  show eqH _ [(Pst a b 1).box]
  rw [e]
  simp [Pr.box]
 | 1, _ =>
  obtain ⟨⟨n, m, d, c, e⟩, hp⟩ : ∃ p, Pst a b 1 = p := ⟨_, rfl⟩
  simp only [hp]
  refine zd.run hmix J7 [5, 12, 13] 400 (T := .ite true (.side ((0 : Int) ≤ 1 ∧ (1 : Int) < 2 ∧ 2 ≤ List.length [AV.str a, AV.str b]) (.ite (decide (e = 0)) (.ex (fun (x : List UInt8) => eqL [AV.str b] [AV.str x] ∧ x.length < 4611686018427387904) fun n_1 => .all (fun (r : List UInt8 × List UInt8 × Int) => r = if errR n_1 = 0 then (numR n_1, denR n_1, (0 : Int)) else ([], [], errR n_1)) fun n_2 => .side ((0 : Int) ≤ 1 ∧ (1 : Int) < 2) (.side ((0 : Int) ≤ 1 ∧ (1 : Int) < 2) (.side (inR .i64 (2 : Int)) (.leaf (.back 0 [(5, .ptr 0 0), (12, .agg [.str a, .str b]), (13, .int .i64 2)] [.box [.str n, .str n_2.1, .str d, .str (n_2.2.1), .int .i64 (n_2.2.2)]]))))) (.side (inR .i64 (2 : Int)) (.leaf (.back 0 [(5, .ptr 0 0), (12, .agg [.str a, .str b]), (13, .int .i64 2)] [.box [.str n, .str m, .str d, .str c, .int .i64 e]]))))) (.leaf (.ret [.ptr 0 0] [.box [.str n, .str m, .str d, .str c, .int .i64 e]]))) (by kernel_rfl) ?_
  simp only [Tree.holds, ze, inR, lo, hi, Int.toNat_natCast]
  refine ⟨fun _ => ⟨by simp, fun _ => ⟨fun h => ⟨b, ⟨by simp, h2⟩, ⟨_, rfl⟩, ?_⟩, fun h => ⟨by decide, fun _ => ?_⟩⟩⟩, fun h => (by cases h)⟩
  ·have h : e = 0 := by simpa using h
   intro r hr
   refine ⟨by decide, fun _ => ⟨by decide, fun _ => ⟨by decide, fun _ => ?_⟩⟩⟩
   rw [if_pos trivial]
   refine ⟨⟨2, by decide⟩, by decide, by simp [SBq], ?_, by kernel_rfl, Nat.zero_le _⟩
   have e2 : Pst a b 2 = ⟨n, r.1, d, r.2.1, r.2.2⟩ := by
    rw [hr]
    by_cases ha : errR a = 0
    ·simp only [Pst, ha] at hp
     simp at hp
     obtain ⟨rfl, rfl, rfl, rfl, _⟩ := hp
     by_cases hb : errR b = 0
     ·simp [Pst, jg, ha, hb]
     ·simp [Pst, jg, ha, hb]
    ·simp only [Pst] at hp
     rw [if_pos ha] at hp
     cases hp
     exact absurd h ha
   show eqH _ [(Pst a b 2).box]
   rw [e2]
   simp [Pr.box]
  ·have h : e ≠ 0 := by simpa using h
   rw [if_pos trivial]
   refine ⟨⟨2, by decide⟩, by decide, by simp [SBq], ?_, by kernel_rfl, Nat.zero_le _⟩
   have e2 : Pst a b 2 = ⟨n, m, d, c, e⟩ := by
    by_cases ha : errR a = 0
    ·simp only [Pst, ha] at hp
     simp at hp
     exact absurd hp.2.2.2.2.symm h
    ·rw [← hp]
     simp only [Pst, jg]
     rw [if_pos ha, if_pos ha]
   show eqH _ [(Pst a b 2).box]
   rw [e2]
   simp [Pr.box]
 | 2, _ =>
  obtain ⟨⟨n, m, d, c, e⟩, hp⟩ : ∃ p, Pst a b 2 = p := ⟨_, rfl⟩
  simp only [hp]
  refine zd.run hmix J7 [5, 12, 13] 400 (T := .ite false (.side ((0 : Int) ≤ 2 ∧ (2 : Int) < 2 ∧ 3 ≤ List.length [AV.str a, AV.str b]) .fail) (.leaf (.ret [.ptr 0 0] [.box [.str n, .str m, .str d, .str c, .int .i64 e]]))) (by kernel_rfl) ?_
  simp only [Tree.holds, ze, inR, lo, hi, Int.toNat_natCast]
  refine ⟨fun h => (by cases h), fun _ => ?_⟩
  have hp : jg a b = ⟨n, m, d, c, e⟩ := hp
  rw [hp] at hq
  refine RetR.out1 0 (by show 0 < 1; decide) hq (fun h => by cases h) ?_ ?_
  ·exact ⟨rfl, rfl⟩
  ·exact ⟨rfl, rfl, rfl, rfl, ⟨rfl, rfl⟩, trivial⟩
end Go.Proofs.Tryz
end

/- Rationals: sums, differences, products, comparisons. -/
section
set_option maxRecDepth 100000
open Go Go.Sx Go.Proofs Go.Nov
namespace Go.Proofs.Tryz
attribute [local simp] eqKV eqA eqA0 eqH eqB eqL eqL0
theorem v8 (a b : List UInt8) : ((jg a b).e ≠ 0 ∧ zW a b = (jg a b).e) ∨ ((jg a b).e = 0 ∧ errR a = 0 ∧ errR b = 0 ∧ (jg a b).n = numR a ∧ (jg a b).m = numR b ∧ (jg a b).d = denR a ∧ (jg a b).c = denR b) := by
 unfold jg
 by_cases ha : errR a = 0
 ·rw [if_neg (by rw [ha]; simp)]
  by_cases hb : errR b = 0
  ·rw [if_neg (by rw [hb]; simp)]
   exact .inr ⟨rfl, ha, hb, rfl, rfl, rfl, rfl⟩
  ·rw [if_pos hb]
   exact .inl ⟨hb, by unfold zW; rw [if_pos ha]⟩
 ·rw [if_pos ha]
  exact .inl ⟨ha, by unfold zW; rw [if_neg ha]⟩
theorem xx (a b : List UInt8) : (jg a b).n.length ≤ a.length ∧ (jg a b).m.length ≤ b.length ∧ (jg a b).d.length ≤ a.length + 1 ∧ (jg a b).c.length ≤ b.length + 1 := by
 have h1 := wo a
 have h2 := wo b
 have h3 := jv a
 have h4 := jv b
 unfold jg
 split
 ·simp
 ·split
  ·simp; omega
  ·simp only; omega
theorem kx_l (x y : List UInt8) : eqL [.str x, .str y, .ptr 0 0, .ptr 2 0] [.str x, .str y, .ptr 0 0, .ptr 2 0] := ⟨rfl, rfl, ⟨rfl, rfl⟩, ⟨rfl, rfl⟩, trivial⟩
theorem kx_b (p : Pr) : eqH [.box [.str p.n, .str p.m, .str p.d, .str p.c, .int .i64 p.e]] [.box [.str p.n, .str p.m, .str p.d, .str p.c, .int .i64 p.e]] := ⟨⟨rfl, rfl, rfl, rfl, ⟨rfl, rfl⟩, trivial⟩, trivial⟩
theorem kx_h (p : Pr) (f : Nat) : eqH [.box [.ptr 1 0], .box [.str p.n, .str p.m, .str p.d, .str p.c, .int .i64 p.e], .box [.fn f [] []]] [.box [.ptr 1 0], .box [.str p.n, .str p.m, .str p.d, .str p.c, .int .i64 p.e], .box [.fn f [] []]] := ⟨⟨⟨rfl, rfl⟩, trivial⟩, (kx_b p).1, ⟨rfl, trivial⟩, trivial⟩
theorem kx_k (f : Nat) : eqL [.ptr 0 0, .fn f [] []] [.ptr 0 0, .fn f [] []] := ⟨⟨rfl, rfl⟩, rfl, trivial⟩
theorem kx_m (x y : List UInt8) : eqL [.ptr 0 0, .str x, .str y] [.ptr 0 0, .str x, .str y] := ⟨⟨rfl, rfl⟩, rfl, rfl, trivial⟩
theorem qu (p : Pr) (o : QOp) (x y : List UInt8) {r : List UInt8 × Int} (h : r = if p.e ≠ 0 then ([], p.e) else o.op x y) : r.1.length ≤ 1001 := by
 rw [h]
 refine zd2 ?_
 cases o
 ·exact ZS x y
 ·exact zau x y
 ·exact qH x y
noncomputable def GQA : Nat → Option Ctr := fun f => if f = 32 then some (KD) else if f = 33 then some (Kv) else if f = 52 then some (J6) else if f = 36 then some (Xk) else none
theorem Ky : ∀ g c, GQA g = some c → zg Tryz.prog g c := okIf W5 (okIf Vv (okIf WD (okIf XB (zp))))
def zb7 : Ctr := ctrP true (fun p : List UInt8 × List UInt8 => [.str p.1, .str p.2]) (fun p => p.1.length < 2 ^ 61 ∧ p.2.length < 2 ^ 61) (fun p r => r = addR p.1 p.2) (fun _ r => (.tup [.str r.1, .int .i64 r.2], []))
def Vp : Ctr := ctrP true (fun p : List UInt8 × List UInt8 => [.str p.1, .str p.2]) (fun p => p.1.length < 2 ^ 61 ∧ p.2.length < 2 ^ 61) (fun p r => r = subR p.1 p.2) (fun _ r => (.tup [.str r.1, .int .i64 r.2], []))
def UJ : Ctr := ctrP true (fun p : List UInt8 × List UInt8 => [.str p.1, .str p.2]) (fun p => p.1.length < 2 ^ 61 ∧ p.2.length < 2 ^ 61) (fun p r => r = mulR p.1 p.2) (fun _ r => (.tup [.str r.1, .int .i64 r.2], []))
theorem Yb : zg Tryz.prog 24 zb7 := by
 refine zi (fn := Tryz.f24) (c := Tryz.f24.body.getD .skip) rfl rfl rfl fun p hp O w0 Q hq => ?_
 obtain ⟨a, b⟩ := p
 obtain ⟨h1, h2⟩ := hp
 replace hq := hq _ rfl
 simp only at h1 h2 hq
 refine zd.run hmix Ky [] 400 (T := .ex (fun (x : List UInt8 × List UInt8) => eqL [AV.str a, AV.str b] [AV.str x.1, AV.str x.2] ∧ eqH [] [] ∧ 0 = 0 ∧ x.1.length < 4611686018427387904 ∧ x.2.length < 4611686018427387904) fun n => .all (fun (r : Pr) => r = jg n.1 n.2) fun n => .ex (fun (x : Pr × QOp) => eqL [AV.ptr 0 0, AV.fn 34 [] []] [AV.ptr 0 0, AV.fn (QOp.fn x.2) [] []] ∧ eqH [.box [AV.str n.n, AV.str n.m, AV.str n.d, AV.str n.c, AV.int .i64 n.e]] [.box [AV.str x.1.n, AV.str x.1.m, AV.str x.1.d, AV.str x.1.c, AV.int .i64 x.1.e]] ∧ 1 = 1 ∧ True) fun n => .all (fun (x : Unit) => True) fun n_1 => .ex (fun (x : Pr × QOp) => eqL [AV.ptr 0 0, AV.fn 45 [] []] [AV.ptr 0 0, AV.fn (QOp.fn x.2) [] []] ∧ eqH [.box [AV.str n.1.n, AV.str n.1.m, AV.str n.1.d, AV.str n.1.c, AV.int .i64 n.1.e]] [.box [AV.str x.1.n, AV.str x.1.m, AV.str x.1.d, AV.str x.1.c, AV.int .i64 x.1.e]] ∧ 1 = 1 ∧ True) fun n_2 => .all (fun (x : Unit) => True) fun n_3 => .side ((0 : Int) ≤ 0 ∧ (0 : Int) < 2) (.side ((0 : Int) ≤ 1 ∧ (1 : Int) < 2) (.side ((0 : Int) ≤ 1 ∧ (1 : Int) < 2) (.side ((0 : Int) ≤ 0 ∧ (0 : Int) < 2) (.side ((0 : Int) ≤ 0 ∧ (0 : Int) < 2) (.side ((0 : Int) ≤ 1 ∧ (1 : Int) < 2) (.ex (fun (x : KX) => eqL [AV.str n_2.1.n, AV.str n_2.1.c, AV.ptr 0 0, AV.ptr 2 0] [AV.str x.x, AV.str x.y, AV.ptr 0 0, AV.ptr 2 0] ∧ eqH [.box [AV.ptr 1 0], .box [AV.str n_2.1.n, AV.str n_2.1.m, AV.str n_2.1.d, AV.str n_2.1.c, AV.int .i64 n_2.1.e], .box [AV.fn (QOp.fn n.2) [] []]] [.box [AV.ptr 1 0], .box [AV.str x.p.n, AV.str x.p.m, AV.str x.p.d, AV.str x.p.c, AV.int .i64 x.p.e], .box [AV.fn (QOp.fn x.o) [] []]] ∧ 3 = 3 ∧ x.x.length < 4611686018427387904 ∧ x.y.length < 4611686018427387904) fun n => .all (fun (r : List UInt8 × Int) => r = if Pr.e n.p ≠ 0 then ([], Pr.e n.p) else QOp.op n.o n.x n.y) fun n_4 => .side (Pr.c (Pr.err n.p n_4.2) = Pr.c n_2.1) (.side (Pr.d (Pr.err n.p n_4.2) = Pr.d n_2.1) (.side (Pr.d (Pr.err n.p n_4.2) = Pr.d n_2.1) (.side (Pr.m (Pr.err n.p n_4.2) = Pr.m n_2.1) (.ex (fun (x : KX) => eqL [AV.str n_2.1.m, AV.str n_2.1.d, AV.ptr 0 0, AV.ptr 2 0] [AV.str x.x, AV.str x.y, AV.ptr 0 0, AV.ptr 2 0] ∧ eqH [.box [AV.ptr 1 0], .box [AV.str (Pr.n (Pr.err n.p n_4.2)), AV.str (Pr.m (Pr.err n.p n_4.2)), AV.str (Pr.d (Pr.err n.p n_4.2)), AV.str (Pr.c (Pr.err n.p n_4.2)), AV.int .i64 (Pr.e (Pr.err n.p n_4.2))], .box [AV.fn (QOp.fn n.o) [] []]] [.box [AV.ptr 1 0], .box [AV.str x.p.n, AV.str x.p.m, AV.str x.p.d, AV.str x.p.c, AV.int .i64 x.p.e], .box [AV.fn (QOp.fn x.o) [] []]] ∧ 3 = 3 ∧ x.x.length < 4611686018427387904 ∧ x.y.length < 4611686018427387904) fun n => .all (fun (r : List UInt8 × Int) => r = if Pr.e n.p ≠ 0 then ([], Pr.e n.p) else QOp.op n.o n.x n.y) fun n_5 => .side (Pr.c (Pr.err n.p n_5.2) = Pr.c n_2.1) (.side (Pr.d (Pr.err n.p n_5.2) = Pr.d n_2.1) (.ex (fun (x : KX) => eqL [AV.str n_4.1, AV.str n_5.1, AV.ptr 0 0, AV.ptr 2 0] [AV.str x.x, AV.str x.y, AV.ptr 0 0, AV.ptr 2 0] ∧ eqH [.box [AV.ptr 1 0], .box [AV.str (Pr.n (Pr.err n.p n_5.2)), AV.str (Pr.m (Pr.err n.p n_5.2)), AV.str (Pr.d (Pr.err n.p n_5.2)), AV.str (Pr.c (Pr.err n.p n_5.2)), AV.int .i64 (Pr.e (Pr.err n.p n_5.2))], .box [AV.fn (QOp.fn n_2.2) [] []]] [.box [AV.ptr 1 0], .box [AV.str x.p.n, AV.str x.p.m, AV.str x.p.d, AV.str x.p.c, AV.int .i64 x.p.e], .box [AV.fn (QOp.fn x.o) [] []]] ∧ 3 = 3 ∧ x.x.length < 4611686018427387904 ∧ x.y.length < 4611686018427387904) fun n_6 => .all (fun (r : List UInt8 × Int) => r = if Pr.e n_6.p ≠ 0 then ([], Pr.e n_6.p) else QOp.op n_6.o n_6.x n_6.y) fun n_7 => .side (Pr.c (Pr.err n_6.p n_7.2) = Pr.c n_2.1) (.side (Pr.d (Pr.err n_6.p n_7.2) = Pr.d n_2.1) (.ex (fun (x : KX) => eqL [AV.str n_2.1.d, AV.str n_2.1.c, AV.ptr 0 0, AV.ptr 2 0] [AV.str x.x, AV.str x.y, AV.ptr 0 0, AV.ptr 2 0] ∧ eqH [.box [AV.ptr 1 0], .box [AV.str (Pr.n (Pr.err n_6.p n_7.2)), AV.str (Pr.m (Pr.err n_6.p n_7.2)), AV.str (Pr.d (Pr.err n_6.p n_7.2)), AV.str (Pr.c (Pr.err n_6.p n_7.2)), AV.int .i64 (Pr.e (Pr.err n_6.p n_7.2))], .box [AV.fn (QOp.fn n.o) [] []]] [.box [AV.ptr 1 0], .box [AV.str x.p.n, AV.str x.p.m, AV.str x.p.d, AV.str x.p.c, AV.int .i64 x.p.e], .box [AV.fn (QOp.fn x.o) [] []]] ∧ 3 = 3 ∧ x.x.length < 4611686018427387904 ∧ x.y.length < 4611686018427387904) fun n => .all (fun (r : List UInt8 × Int) => r = if Pr.e n.p ≠ 0 then ([], Pr.e n.p) else QOp.op n.o n.x n.y) fun n_8 => .ex (fun (x : Pr × List UInt8 × List UInt8) => eqL [AV.ptr 0 0, AV.str n_7.1, AV.str n_8.1] [AV.ptr 0 0, AV.str (x.2.1), AV.str (x.2.2)] ∧ eqH [.box [AV.str (Pr.n (Pr.err n.p n_8.2)), AV.str (Pr.m (Pr.err n.p n_8.2)), AV.str (Pr.d (Pr.err n.p n_8.2)), AV.str (Pr.c (Pr.err n.p n_8.2)), AV.int .i64 (Pr.e (Pr.err n.p n_8.2))]] [.box [AV.str x.1.n, AV.str x.1.m, AV.str x.1.d, AV.str x.1.c, AV.int .i64 x.1.e]] ∧ 1 = 1 ∧ List.length (x.2.1) < 4611686018427387904 ∧ List.length (x.2.2) < 4611686018427387904) fun n_9 => .all (fun (r : List UInt8 × Int) => r = if Pr.e n_9.1 ≠ 0 then ([], Pr.e n_9.1) else qJ (n_9.2.1) (n_9.2.2)) fun n_10 => .leaf (.ret [.str n_10.1, .int .i64 n_10.2] [.box [.str n_9.1.n, .str n_9.1.m, .str n_9.1.d, .str n_9.1.c, .int .i64 n_9.1.e], .box [.ptr 0 0], .box [.fn (QOp.fn n.o) [] []], .box [.ptr 0 0], .box [.fn (QOp.fn n_6.o) [] []]])))))))))))))))) (by kernel_rfl) ?_
 simp only [Tree.holds, ze]
 refine ⟨(a, b), ⟨⟨rfl, rfl, trivial⟩, trivial, by trivial, by show a.length < _; omega, by show b.length < _; omega⟩, ⟨_, rfl⟩, ?_⟩
 intro p hp
 have hc := v8 a b
 obtain ⟨l1, l2, l3, l4⟩ := xx a b
 rw [← hp] at hc l1 l2 l3 l4
 refine ⟨(p, .mul), ⟨kx_k _, kx_b p, by trivial, trivial⟩, ⟨(), trivial⟩, ?_⟩
 intro _ _
 refine ⟨(p, .add), ⟨kx_k _, kx_b p, by trivial, trivial⟩, ⟨(), trivial⟩, ?_⟩
 intro _ _
 iterate 6 refine ⟨by decide, fun _ => ?_⟩
 refine ⟨⟨p, .mul, p.n, p.c⟩, ⟨kx_l _ _, kx_h (p) _, by trivial, by show (p.n).length < _; omega, by show (p.c).length < _; omega⟩, ⟨_, rfl⟩, ?_⟩
 intro r1 hr1
 have kr1 := qu _ _ _ _ hr1
 iterate 4 refine ⟨rfl, fun _ => ?_⟩
 refine ⟨⟨p.err r1.2, .mul, p.m, p.d⟩, ⟨kx_l _ _, kx_h (p.err r1.2) _, by trivial, by show (p.m).length < _; omega, by show (p.d).length < _; omega⟩, ⟨_, rfl⟩, ?_⟩
 intro r2 hr2
 have kr2 := qu _ _ _ _ hr2
 iterate 2 refine ⟨rfl, fun _ => ?_⟩
 refine ⟨⟨(p.err r1.2).err r2.2, .add, r1.1, r2.1⟩, ⟨kx_l _ _, kx_h ((p.err r1.2).err r2.2) _, by trivial, by show (r1.1).length < _; omega, by show (r2.1).length < _; omega⟩, ⟨_, rfl⟩, ?_⟩
 intro r3 hr3
 have kr3 := qu _ _ _ _ hr3
 iterate 2 refine ⟨rfl, fun _ => ?_⟩
 refine ⟨⟨((p.err r1.2).err r2.2).err r3.2, .mul, p.d, p.c⟩, ⟨kx_l _ _, kx_h (((p.err r1.2).err r2.2).err r3.2) _, by trivial, by show (p.d).length < _; omega, by show (p.c).length < _; omega⟩, ⟨_, rfl⟩, ?_⟩
 intro r4 hr4
 have kr4 := qu _ _ _ _ hr4
 refine ⟨((((p.err r1.2).err r2.2).err r3.2).err r4.2, r3.1, r4.1), ⟨kx_m _ _, kx_b _, by trivial, by show (r3.1).length < _; omega, by show (r4.1).length < _; omega⟩, ⟨_, rfl⟩, ?_⟩
 intro r5 hr5
 have hfin := u7 hc (fun {s t} => UL (s := s) (t := t)) hr1 hr2 hr3 hr4 hr5
 have e : r5 = addR a b := hfin
 rw [← e] at hq
 exact RetR.scal hq rfl (by simp [resV])
theorem uU : zg Tryz.prog 17 Vp := by
 refine zi (fn := Tryz.f17) (c := Tryz.f17.body.getD .skip) rfl rfl rfl fun p hp O w0 Q hq => ?_
 obtain ⟨a, b⟩ := p
 obtain ⟨h1, h2⟩ := hp
 replace hq := hq _ rfl
 simp only at h1 h2 hq
 refine zd.run hmix Ky [] 400 (T := .ex (fun (x : List UInt8 × List UInt8) => eqL [AV.str a, AV.str b] [AV.str x.1, AV.str x.2] ∧ eqH [] [] ∧ 0 = 0 ∧ x.1.length < 4611686018427387904 ∧ x.2.length < 4611686018427387904) fun n => .all (fun (r : Pr) => r = jg n.1 n.2) fun n => .ex (fun (x : Pr × QOp) => eqL [AV.ptr 0 0, AV.fn 34 [] []] [AV.ptr 0 0, AV.fn (QOp.fn x.2) [] []] ∧ eqH [.box [AV.str n.n, AV.str n.m, AV.str n.d, AV.str n.c, AV.int .i64 n.e]] [.box [AV.str x.1.n, AV.str x.1.m, AV.str x.1.d, AV.str x.1.c, AV.int .i64 x.1.e]] ∧ 1 = 1 ∧ True) fun n => .all (fun (x : Unit) => True) fun n_1 => .ex (fun (x : Pr × QOp) => eqL [AV.ptr 0 0, AV.fn 35 [] []] [AV.ptr 0 0, AV.fn (QOp.fn x.2) [] []] ∧ eqH [.box [AV.str n.1.n, AV.str n.1.m, AV.str n.1.d, AV.str n.1.c, AV.int .i64 n.1.e]] [.box [AV.str x.1.n, AV.str x.1.m, AV.str x.1.d, AV.str x.1.c, AV.int .i64 x.1.e]] ∧ 1 = 1 ∧ True) fun n_2 => .all (fun (x : Unit) => True) fun n_3 => .side ((0 : Int) ≤ 0 ∧ (0 : Int) < 2) (.side ((0 : Int) ≤ 1 ∧ (1 : Int) < 2) (.side ((0 : Int) ≤ 1 ∧ (1 : Int) < 2) (.side ((0 : Int) ≤ 0 ∧ (0 : Int) < 2) (.side ((0 : Int) ≤ 0 ∧ (0 : Int) < 2) (.side ((0 : Int) ≤ 1 ∧ (1 : Int) < 2) (.ex (fun (x : KX) => eqL [AV.str n_2.1.n, AV.str n_2.1.c, AV.ptr 0 0, AV.ptr 2 0] [AV.str x.x, AV.str x.y, AV.ptr 0 0, AV.ptr 2 0] ∧ eqH [.box [AV.ptr 1 0], .box [AV.str n_2.1.n, AV.str n_2.1.m, AV.str n_2.1.d, AV.str n_2.1.c, AV.int .i64 n_2.1.e], .box [AV.fn (QOp.fn n.2) [] []]] [.box [AV.ptr 1 0], .box [AV.str x.p.n, AV.str x.p.m, AV.str x.p.d, AV.str x.p.c, AV.int .i64 x.p.e], .box [AV.fn (QOp.fn x.o) [] []]] ∧ 3 = 3 ∧ x.x.length < 4611686018427387904 ∧ x.y.length < 4611686018427387904) fun n => .all (fun (r : List UInt8 × Int) => r = if Pr.e n.p ≠ 0 then ([], Pr.e n.p) else QOp.op n.o n.x n.y) fun n_4 => .side (Pr.c (Pr.err n.p n_4.2) = Pr.c n_2.1) (.side (Pr.d (Pr.err n.p n_4.2) = Pr.d n_2.1) (.side (Pr.d (Pr.err n.p n_4.2) = Pr.d n_2.1) (.side (Pr.m (Pr.err n.p n_4.2) = Pr.m n_2.1) (.ex (fun (x : KX) => eqL [AV.str n_2.1.m, AV.str n_2.1.d, AV.ptr 0 0, AV.ptr 2 0] [AV.str x.x, AV.str x.y, AV.ptr 0 0, AV.ptr 2 0] ∧ eqH [.box [AV.ptr 1 0], .box [AV.str (Pr.n (Pr.err n.p n_4.2)), AV.str (Pr.m (Pr.err n.p n_4.2)), AV.str (Pr.d (Pr.err n.p n_4.2)), AV.str (Pr.c (Pr.err n.p n_4.2)), AV.int .i64 (Pr.e (Pr.err n.p n_4.2))], .box [AV.fn (QOp.fn n.o) [] []]] [.box [AV.ptr 1 0], .box [AV.str x.p.n, AV.str x.p.m, AV.str x.p.d, AV.str x.p.c, AV.int .i64 x.p.e], .box [AV.fn (QOp.fn x.o) [] []]] ∧ 3 = 3 ∧ x.x.length < 4611686018427387904 ∧ x.y.length < 4611686018427387904) fun n => .all (fun (r : List UInt8 × Int) => r = if Pr.e n.p ≠ 0 then ([], Pr.e n.p) else QOp.op n.o n.x n.y) fun n_5 => .side (Pr.c (Pr.err n.p n_5.2) = Pr.c n_2.1) (.side (Pr.d (Pr.err n.p n_5.2) = Pr.d n_2.1) (.ex (fun (x : KX) => eqL [AV.str n_4.1, AV.str n_5.1, AV.ptr 0 0, AV.ptr 2 0] [AV.str x.x, AV.str x.y, AV.ptr 0 0, AV.ptr 2 0] ∧ eqH [.box [AV.ptr 1 0], .box [AV.str (Pr.n (Pr.err n.p n_5.2)), AV.str (Pr.m (Pr.err n.p n_5.2)), AV.str (Pr.d (Pr.err n.p n_5.2)), AV.str (Pr.c (Pr.err n.p n_5.2)), AV.int .i64 (Pr.e (Pr.err n.p n_5.2))], .box [AV.fn (QOp.fn n_2.2) [] []]] [.box [AV.ptr 1 0], .box [AV.str x.p.n, AV.str x.p.m, AV.str x.p.d, AV.str x.p.c, AV.int .i64 x.p.e], .box [AV.fn (QOp.fn x.o) [] []]] ∧ 3 = 3 ∧ x.x.length < 4611686018427387904 ∧ x.y.length < 4611686018427387904) fun n_6 => .all (fun (r : List UInt8 × Int) => r = if Pr.e n_6.p ≠ 0 then ([], Pr.e n_6.p) else QOp.op n_6.o n_6.x n_6.y) fun n_7 => .side (Pr.c (Pr.err n_6.p n_7.2) = Pr.c n_2.1) (.side (Pr.d (Pr.err n_6.p n_7.2) = Pr.d n_2.1) (.ex (fun (x : KX) => eqL [AV.str n_2.1.d, AV.str n_2.1.c, AV.ptr 0 0, AV.ptr 2 0] [AV.str x.x, AV.str x.y, AV.ptr 0 0, AV.ptr 2 0] ∧ eqH [.box [AV.ptr 1 0], .box [AV.str (Pr.n (Pr.err n_6.p n_7.2)), AV.str (Pr.m (Pr.err n_6.p n_7.2)), AV.str (Pr.d (Pr.err n_6.p n_7.2)), AV.str (Pr.c (Pr.err n_6.p n_7.2)), AV.int .i64 (Pr.e (Pr.err n_6.p n_7.2))], .box [AV.fn (QOp.fn n.o) [] []]] [.box [AV.ptr 1 0], .box [AV.str x.p.n, AV.str x.p.m, AV.str x.p.d, AV.str x.p.c, AV.int .i64 x.p.e], .box [AV.fn (QOp.fn x.o) [] []]] ∧ 3 = 3 ∧ x.x.length < 4611686018427387904 ∧ x.y.length < 4611686018427387904) fun n => .all (fun (r : List UInt8 × Int) => r = if Pr.e n.p ≠ 0 then ([], Pr.e n.p) else QOp.op n.o n.x n.y) fun n_8 => .ex (fun (x : Pr × List UInt8 × List UInt8) => eqL [AV.ptr 0 0, AV.str n_7.1, AV.str n_8.1] [AV.ptr 0 0, AV.str (x.2.1), AV.str (x.2.2)] ∧ eqH [.box [AV.str (Pr.n (Pr.err n.p n_8.2)), AV.str (Pr.m (Pr.err n.p n_8.2)), AV.str (Pr.d (Pr.err n.p n_8.2)), AV.str (Pr.c (Pr.err n.p n_8.2)), AV.int .i64 (Pr.e (Pr.err n.p n_8.2))]] [.box [AV.str x.1.n, AV.str x.1.m, AV.str x.1.d, AV.str x.1.c, AV.int .i64 x.1.e]] ∧ 1 = 1 ∧ List.length (x.2.1) < 4611686018427387904 ∧ List.length (x.2.2) < 4611686018427387904) fun n_9 => .all (fun (r : List UInt8 × Int) => r = if Pr.e n_9.1 ≠ 0 then ([], Pr.e n_9.1) else qJ (n_9.2.1) (n_9.2.2)) fun n_10 => .leaf (.ret [.str n_10.1, .int .i64 n_10.2] [.box [.str n_9.1.n, .str n_9.1.m, .str n_9.1.d, .str n_9.1.c, .int .i64 n_9.1.e], .box [.ptr 0 0], .box [.fn (QOp.fn n.o) [] []], .box [.ptr 0 0], .box [.fn (QOp.fn n_6.o) [] []]])))))))))))))))) (by kernel_rfl) ?_
 simp only [Tree.holds, ze]
 refine ⟨(a, b), ⟨⟨rfl, rfl, trivial⟩, trivial, by trivial, by show a.length < _; omega, by show b.length < _; omega⟩, ⟨_, rfl⟩, ?_⟩
 intro p hp
 have hc := v8 a b
 obtain ⟨l1, l2, l3, l4⟩ := xx a b
 rw [← hp] at hc l1 l2 l3 l4
 refine ⟨(p, .mul), ⟨kx_k _, kx_b p, by trivial, trivial⟩, ⟨(), trivial⟩, ?_⟩
 intro _ _
 refine ⟨(p, .sub), ⟨kx_k _, kx_b p, by trivial, trivial⟩, ⟨(), trivial⟩, ?_⟩
 intro _ _
 iterate 6 refine ⟨by decide, fun _ => ?_⟩
 refine ⟨⟨p, .mul, p.n, p.c⟩, ⟨kx_l _ _, kx_h (p) _, by trivial, by show (p.n).length < _; omega, by show (p.c).length < _; omega⟩, ⟨_, rfl⟩, ?_⟩
 intro r1 hr1
 have kr1 := qu _ _ _ _ hr1
 iterate 4 refine ⟨rfl, fun _ => ?_⟩
 refine ⟨⟨p.err r1.2, .mul, p.m, p.d⟩, ⟨kx_l _ _, kx_h (p.err r1.2) _, by trivial, by show (p.m).length < _; omega, by show (p.d).length < _; omega⟩, ⟨_, rfl⟩, ?_⟩
 intro r2 hr2
 have kr2 := qu _ _ _ _ hr2
 iterate 2 refine ⟨rfl, fun _ => ?_⟩
 refine ⟨⟨(p.err r1.2).err r2.2, .sub, r1.1, r2.1⟩, ⟨kx_l _ _, kx_h ((p.err r1.2).err r2.2) _, by trivial, by show (r1.1).length < _; omega, by show (r2.1).length < _; omega⟩, ⟨_, rfl⟩, ?_⟩
 intro r3 hr3
 have kr3 := qu _ _ _ _ hr3
 iterate 2 refine ⟨rfl, fun _ => ?_⟩
 refine ⟨⟨((p.err r1.2).err r2.2).err r3.2, .mul, p.d, p.c⟩, ⟨kx_l _ _, kx_h (((p.err r1.2).err r2.2).err r3.2) _, by trivial, by show (p.d).length < _; omega, by show (p.c).length < _; omega⟩, ⟨_, rfl⟩, ?_⟩
 intro r4 hr4
 have kr4 := qu _ _ _ _ hr4
 refine ⟨((((p.err r1.2).err r2.2).err r3.2).err r4.2, r3.1, r4.1), ⟨kx_m _ _, kx_b _, by trivial, by show (r3.1).length < _; omega, by show (r4.1).length < _; omega⟩, ⟨_, rfl⟩, ?_⟩
 intro r5 hr5
 have hfin := u7 hc (fun {s t} => zc1 (s := s) (t := t)) hr1 hr2 hr3 hr4 hr5
 have e : r5 = subR a b := hfin
 rw [← e] at hq
 exact RetR.scal hq rfl (by simp [resV])
theorem Xv : zg Tryz.prog 27 UJ := by
 refine zi (fn := Tryz.f27) (c := Tryz.f27.body.getD .skip) rfl rfl rfl fun p hp O w0 Q hq => ?_
 obtain ⟨a, b⟩ := p
 obtain ⟨h1, h2⟩ := hp
 replace hq := hq _ rfl
 simp only at h1 h2 hq
 refine zd.run hmix Ky [] 400 (T := .ex (fun (x : List UInt8 × List UInt8) => eqL [AV.str a, AV.str b] [AV.str x.1, AV.str x.2] ∧ eqH [] [] ∧ 0 = 0 ∧ x.1.length < 4611686018427387904 ∧ x.2.length < 4611686018427387904) fun n => .all (fun (r : Pr) => r = jg n.1 n.2) fun n => .ex (fun (x : Pr × QOp) => eqL [AV.ptr 0 0, AV.fn 34 [] []] [AV.ptr 0 0, AV.fn (QOp.fn x.2) [] []] ∧ eqH [.box [AV.str n.n, AV.str n.m, AV.str n.d, AV.str n.c, AV.int .i64 n.e]] [.box [AV.str x.1.n, AV.str x.1.m, AV.str x.1.d, AV.str x.1.c, AV.int .i64 x.1.e]] ∧ 1 = 1 ∧ True) fun n => .all (fun (x : Unit) => True) fun n_1 => .side ((0 : Int) ≤ 0 ∧ (0 : Int) < 2) (.side ((0 : Int) ≤ 1 ∧ (1 : Int) < 2) (.side ((0 : Int) ≤ 0 ∧ (0 : Int) < 2) (.side ((0 : Int) ≤ 1 ∧ (1 : Int) < 2) (.ex (fun (x : KX) => eqL [AV.str n.1.n, AV.str n.1.m, AV.ptr 0 0, AV.ptr 2 0] [AV.str x.x, AV.str x.y, AV.ptr 0 0, AV.ptr 2 0] ∧ eqH [.box [AV.ptr 1 0], .box [AV.str n.1.n, AV.str n.1.m, AV.str n.1.d, AV.str n.1.c, AV.int .i64 n.1.e], .box [AV.fn (QOp.fn n.2) [] []]] [.box [AV.ptr 1 0], .box [AV.str x.p.n, AV.str x.p.m, AV.str x.p.d, AV.str x.p.c, AV.int .i64 x.p.e], .box [AV.fn (QOp.fn x.o) [] []]] ∧ 3 = 3 ∧ x.x.length < 4611686018427387904 ∧ x.y.length < 4611686018427387904) fun n_2 => .all (fun (r : List UInt8 × Int) => r = if Pr.e n_2.p ≠ 0 then ([], Pr.e n_2.p) else QOp.op n_2.o n_2.x n_2.y) fun n_3 => .side (Pr.c (Pr.err n_2.p n_3.2) = Pr.c n.1) (.side (Pr.d (Pr.err n_2.p n_3.2) = Pr.d n.1) (.ex (fun (x : KX) => eqL [AV.str n.1.d, AV.str n.1.c, AV.ptr 0 0, AV.ptr 2 0] [AV.str x.x, AV.str x.y, AV.ptr 0 0, AV.ptr 2 0] ∧ eqH [.box [AV.ptr 1 0], .box [AV.str (Pr.n (Pr.err n_2.p n_3.2)), AV.str (Pr.m (Pr.err n_2.p n_3.2)), AV.str (Pr.d (Pr.err n_2.p n_3.2)), AV.str (Pr.c (Pr.err n_2.p n_3.2)), AV.int .i64 (Pr.e (Pr.err n_2.p n_3.2))], .box [AV.fn (QOp.fn n_2.o) [] []]] [.box [AV.ptr 1 0], .box [AV.str x.p.n, AV.str x.p.m, AV.str x.p.d, AV.str x.p.c, AV.int .i64 x.p.e], .box [AV.fn (QOp.fn x.o) [] []]] ∧ 3 = 3 ∧ x.x.length < 4611686018427387904 ∧ x.y.length < 4611686018427387904) fun n => .all (fun (r : List UInt8 × Int) => r = if Pr.e n.p ≠ 0 then ([], Pr.e n.p) else QOp.op n.o n.x n.y) fun n_4 => .ex (fun (x : Pr × List UInt8 × List UInt8) => eqL [AV.ptr 0 0, AV.str n_3.1, AV.str n_4.1] [AV.ptr 0 0, AV.str (x.2.1), AV.str (x.2.2)] ∧ eqH [.box [AV.str (Pr.n (Pr.err n.p n_4.2)), AV.str (Pr.m (Pr.err n.p n_4.2)), AV.str (Pr.d (Pr.err n.p n_4.2)), AV.str (Pr.c (Pr.err n.p n_4.2)), AV.int .i64 (Pr.e (Pr.err n.p n_4.2))]] [.box [AV.str x.1.n, AV.str x.1.m, AV.str x.1.d, AV.str x.1.c, AV.int .i64 x.1.e]] ∧ 1 = 1 ∧ List.length (x.2.1) < 4611686018427387904 ∧ List.length (x.2.2) < 4611686018427387904) fun n_5 => .all (fun (r : List UInt8 × Int) => r = if Pr.e n_5.1 ≠ 0 then ([], Pr.e n_5.1) else qJ (n_5.2.1) (n_5.2.2)) fun n_6 => .leaf (.ret [.str n_6.1, .int .i64 n_6.2] [.box [.str n_5.1.n, .str n_5.1.m, .str n_5.1.d, .str n_5.1.c, .int .i64 n_5.1.e], .box [.ptr 0 0], .box [.fn (QOp.fn n.o) [] []]])))))))) (by kernel_rfl) ?_
 simp only [Tree.holds, ze]
 refine ⟨(a, b), ⟨⟨rfl, rfl, trivial⟩, trivial, by trivial, by show a.length < _; omega, by show b.length < _; omega⟩, ⟨_, rfl⟩, ?_⟩
 intro p hp
 have hc := v8 a b
 obtain ⟨l1, l2, l3, l4⟩ := xx a b
 rw [← hp] at hc l1 l2 l3 l4
 refine ⟨(p, .mul), ⟨kx_k _, kx_b p, by trivial, trivial⟩, ⟨(), trivial⟩, ?_⟩
 intro _ _
 iterate 4 refine ⟨by decide, fun _ => ?_⟩
 refine ⟨⟨p, .mul, p.n, p.m⟩, ⟨kx_l _ _, kx_h (p) _, by trivial, by show (p.n).length < _; omega, by show (p.m).length < _; omega⟩, ⟨_, rfl⟩, ?_⟩
 intro r1 hr1
 have kr1 := qu _ _ _ _ hr1
 iterate 2 refine ⟨rfl, fun _ => ?_⟩
 refine ⟨⟨p.err r1.2, .mul, p.d, p.c⟩, ⟨kx_l _ _, kx_h (p.err r1.2) _, by trivial, by show (p.d).length < _; omega, by show (p.c).length < _; omega⟩, ⟨_, rfl⟩, ?_⟩
 intro r2 hr2
 have kr2 := qu _ _ _ _ hr2
 refine ⟨((p.err r1.2).err r2.2, r1.1, r2.1), ⟨kx_m _ _, kx_b _, by trivial, by show (r1.1).length < _; omega, by show (r2.1).length < _; omega⟩, ⟨_, rfl⟩, ?_⟩
 intro r3 hr3
 have hv : errR a = 0 → errR b = 0 → zq p.n p.m = 0 ∧ zq p.d p.c = 0 := by
  intro ha hb
  obtain ⟨a1, a2, _⟩ := q7 ha
  obtain ⟨b1, b2, _⟩ := q7 hb
  rcases hc with ⟨g1, g2⟩ | ⟨_, _, _, g1, g2, g3, g4⟩
  ·exact absurd g2 (by unfold zW; rw [if_pos ha, hb]; exact fun h => g1 h.symm)
  ·rw [g1, g2, g3, g4]; exact ⟨zk.2 ⟨a1, b1⟩, zk.2 ⟨a2, b2⟩⟩
 have hfin := Jf hc hr1 hr2 hr3 hv
 have e : r3 = mulR a b := by
  rw [hfin]
  unfold mulR
  rcases hc with ⟨g1, g2⟩ | ⟨_, _, _, g1, g2, g3, g4⟩
  ·rw [if_pos (by rw [g2]; exact g1), if_pos (by rw [g2]; exact g1)]
  ·rw [g1, g2, g3, g4]
 rw [← e] at hq
 exact RetR.scal hq rfl (by simp [resV])
end Go.Proofs.Tryz
end

/- Rationals: quotients. -/
section
set_option maxRecDepth 100000
open Go Go.Sx Go.Proofs Go.Nov
namespace Go.Proofs.Tryz
attribute [local simp] eqKV eqA eqA0 eqH eqB eqL eqL0
noncomputable def GQD : Nat → Option Ctr := fun f => if f = 32 then some (KD) else if f = 33 then some (Kv) else if f = 52 then some (J6) else if f = 36 then some (Xk) else none
theorem zer : ∀ g c, GQD g = some c → zg Tryz.prog g c := okIf W5 (okIf Vv (okIf WD (okIf XB (zp))))
def zbk : Ctr := ctrP true (fun p : List UInt8 × List UInt8 => [.str p.1, .str p.2]) (fun p => p.1.length < 2 ^ 61 ∧ p.2.length < 2 ^ 61) (fun p r => r = divR p.1 p.2) (fun _ r => (.tup [.str r.1, .int .i64 r.2], []))
theorem Ye : zg Tryz.prog 31 zbk := by
 refine zi (fn := Tryz.f31) (c := Tryz.f31.body.getD .skip) rfl rfl rfl fun p hp O w0 Q hq => ?_
 obtain ⟨a, b⟩ := p
 obtain ⟨h1, h2⟩ := hp
 replace hq := hq _ rfl
 simp only at h1 h2 hq
 refine zd.run hmix zer [] 400 (T := .ex (fun (x : List UInt8 × List UInt8) => eqL [AV.str a, AV.str b] [AV.str x.1, AV.str x.2] ∧ eqH [] [] ∧ 0 = 0 ∧ x.1.length < 4611686018427387904 ∧ x.2.length < 4611686018427387904) fun n => .all (fun (r : Pr) => r = jg n.1 n.2) fun n => .side (decide (Pr.e n = 0) = true → (0 : Int) ≤ 1 ∧ (1 : Int) < 2) (.ite (bif decide (Pr.e n = 0) then decide (Pr.m n = Array.toList #[(48 : UInt8)]) else false) (.leaf (.ret [.str (Array.toList #[]), .int .i64 16] [.box [.str n.n, .str n.m, .str n.d, .str n.c, .int .i64 n.e]])) (.ex (fun (x : Pr × QOp) => eqL [AV.ptr 0 0, AV.fn 34 [] []] [AV.ptr 0 0, AV.fn (QOp.fn x.2) [] []] ∧ eqH [.box [AV.str n.n, AV.str n.m, AV.str n.d, AV.str n.c, AV.int .i64 n.e]] [.box [AV.str x.1.n, AV.str x.1.m, AV.str x.1.d, AV.str x.1.c, AV.int .i64 x.1.e]] ∧ 1 = 1 ∧ True) fun n => .all (fun (x : Unit) => True) fun n_1 => .side ((0 : Int) ≤ 0 ∧ (0 : Int) < 2) (.side ((0 : Int) ≤ 1 ∧ (1 : Int) < 2) (.side ((0 : Int) ≤ 0 ∧ (0 : Int) < 2) (.side ((0 : Int) ≤ 1 ∧ (1 : Int) < 2) (.ex (fun (x : KX) => eqL [AV.str n.1.n, AV.str n.1.c, AV.ptr 0 0, AV.ptr 2 0] [AV.str x.x, AV.str x.y, AV.ptr 0 0, AV.ptr 2 0] ∧ eqH [.box [AV.ptr 1 0], .box [AV.str n.1.n, AV.str n.1.m, AV.str n.1.d, AV.str n.1.c, AV.int .i64 n.1.e], .box [AV.fn (QOp.fn n.2) [] []]] [.box [AV.ptr 1 0], .box [AV.str x.p.n, AV.str x.p.m, AV.str x.p.d, AV.str x.p.c, AV.int .i64 x.p.e], .box [AV.fn (QOp.fn x.o) [] []]] ∧ 3 = 3 ∧ x.x.length < 4611686018427387904 ∧ x.y.length < 4611686018427387904) fun n_2 => .all (fun (r : List UInt8 × Int) => r = if Pr.e n_2.p ≠ 0 then ([], Pr.e n_2.p) else QOp.op n_2.o n_2.x n_2.y) fun n_3 => .side (Pr.m (Pr.err n_2.p n_3.2) = Pr.m n.1) (.side (Pr.d (Pr.err n_2.p n_3.2) = Pr.d n.1) (.ex (fun (x : KX) => eqL [AV.str n.1.d, AV.str n.1.m, AV.ptr 0 0, AV.ptr 2 0] [AV.str x.x, AV.str x.y, AV.ptr 0 0, AV.ptr 2 0] ∧ eqH [.box [AV.ptr 1 0], .box [AV.str (Pr.n (Pr.err n_2.p n_3.2)), AV.str (Pr.m (Pr.err n_2.p n_3.2)), AV.str (Pr.d (Pr.err n_2.p n_3.2)), AV.str (Pr.c (Pr.err n_2.p n_3.2)), AV.int .i64 (Pr.e (Pr.err n_2.p n_3.2))], .box [AV.fn (QOp.fn n_2.o) [] []]] [.box [AV.ptr 1 0], .box [AV.str x.p.n, AV.str x.p.m, AV.str x.p.d, AV.str x.p.c, AV.int .i64 x.p.e], .box [AV.fn (QOp.fn x.o) [] []]] ∧ 3 = 3 ∧ x.x.length < 4611686018427387904 ∧ x.y.length < 4611686018427387904) fun n => .all (fun (r : List UInt8 × Int) => r = if Pr.e n.p ≠ 0 then ([], Pr.e n.p) else QOp.op n.o n.x n.y) fun n_4 => .ex (fun (x : Pr × List UInt8 × List UInt8) => eqL [AV.ptr 0 0, AV.str n_3.1, AV.str n_4.1] [AV.ptr 0 0, AV.str (x.2.1), AV.str (x.2.2)] ∧ eqH [.box [AV.str (Pr.n (Pr.err n.p n_4.2)), AV.str (Pr.m (Pr.err n.p n_4.2)), AV.str (Pr.d (Pr.err n.p n_4.2)), AV.str (Pr.c (Pr.err n.p n_4.2)), AV.int .i64 (Pr.e (Pr.err n.p n_4.2))]] [.box [AV.str x.1.n, AV.str x.1.m, AV.str x.1.d, AV.str x.1.c, AV.int .i64 x.1.e]] ∧ 1 = 1 ∧ List.length (x.2.1) < 4611686018427387904 ∧ List.length (x.2.2) < 4611686018427387904) fun n_5 => .all (fun (r : List UInt8 × Int) => r = if Pr.e n_5.1 ≠ 0 then ([], Pr.e n_5.1) else qJ (n_5.2.1) (n_5.2.2)) fun n_6 => .leaf (.ret [.str n_6.1, .int .i64 n_6.2] [.box [.str n_5.1.n, .str n_5.1.m, .str n_5.1.d, .str n_5.1.c, .int .i64 n_5.1.e], .box [.ptr 0 0], .box [.fn (QOp.fn n.o) [] []]])))))))))) (by kernel_rfl) ?_
 simp only [Tree.holds, ze]
 refine ⟨(a, b), ⟨⟨rfl, rfl, trivial⟩, trivial, by trivial, by show a.length < _; omega, by show b.length < _; omega⟩, ⟨_, rfl⟩, ?_⟩
 intro p hp
 have hc := v8 a b
 obtain ⟨l1, l2, l3, l4⟩ := xx a b
 rw [← hp] at hc l1 l2 l3 l4
 have h0 : (decide (p.e = 0) = true → 0 ≤ 1 ∧ (1 : Int) < 2) := fun _ => by decide
 refine ⟨fun _ => by decide, fun _ => ⟨fun h => ?_, fun h => ?_⟩⟩
 ·have he : p.e = 0 := Decidable.byContradiction fun g => by rw [decide_eq_false g] at h; cases h
  rw [decide_eq_true he] at h
  have hm : p.m = [48] := of_decide_eq_true h
  have e : divR a b = ([], 16) := by
   rcases hc with ⟨g, _⟩ | ⟨_, g1, g2, _, g3, _⟩
   ·exact absurd he g
   ·unfold divR zW
    rw [if_pos g1, g2, if_neg (by simp), if_pos (by rw [← g3]; exact hm)]
  rw [e] at hq
  exact RetR.scal hq rfl (by simp [resV])
 have hne : p.e = 0 → p.m ≠ [48] := fun he g => by
  rw [decide_eq_true he, decide_eq_true g] at h
  cases h
 refine ⟨(p, .mul), ⟨kx_k _, kx_b p, by trivial, trivial⟩, ⟨(), trivial⟩, ?_⟩
 intro _ _
 iterate 4 refine ⟨by decide, fun _ => ?_⟩
 refine ⟨⟨p, .mul, p.n, p.c⟩, ⟨kx_l _ _, kx_h (p) _, by trivial, by show (p.n).length < _; omega, by show (p.c).length < _; omega⟩, ⟨_, rfl⟩, ?_⟩
 intro r1 hr1
 have kr1 := qu _ _ _ _ hr1
 iterate 2 refine ⟨rfl, fun _ => ?_⟩
 refine ⟨⟨p.err r1.2, .mul, p.d, p.m⟩, ⟨kx_l _ _, kx_h (p.err r1.2) _, by trivial, by show (p.d).length < _; omega, by show (p.m).length < _; omega⟩, ⟨_, rfl⟩, ?_⟩
 intro r2 hr2
 have kr2 := qu _ _ _ _ hr2
 refine ⟨((p.err r1.2).err r2.2, r1.1, r2.1), ⟨kx_m _ _, kx_b _, by trivial, by show (r1.1).length < _; omega, by show (r2.1).length < _; omega⟩, ⟨_, rfl⟩, ?_⟩
 intro r3 hr3
 have hv : errR a = 0 → errR b = 0 → zq p.n p.c = 0 ∧ zq p.d p.m = 0 := by
  intro ha hb
  obtain ⟨a1, a2, _⟩ := q7 ha
  obtain ⟨b1, b2, _⟩ := q7 hb
  rcases hc with ⟨g1, g2⟩ | ⟨_, _, _, g1, g2, g3, g4⟩
  ·exact absurd g2 (by unfold zW; rw [if_pos ha, hb]; exact fun h => g1 h.symm)
  ·rw [g1, g2, g3, g4]; exact ⟨zk.2 ⟨a1, b2⟩, zk.2 ⟨a2, b1⟩⟩
 have hfin := Jf hc hr1 hr2 hr3 hv
 have e : r3 = divR a b := by
  rw [hfin]
  unfold divR
  rcases hc with ⟨g1, g2⟩ | ⟨g0, _, _, g1, g2, g3, g4⟩
  ·rw [if_pos (by rw [g2]; exact g1), if_pos (by rw [g2]; exact g1)]
  ·rw [← g1, ← g2, ← g3, ← g4, if_neg (hne g0)]
 rw [← e] at hq
 exact RetR.scal hq rfl (by simp [resV])
end Go.Proofs.Tryz
end

/- Arguments that say no less than a contract asks. -/
section
namespace Go.Sx
variable [Stat]
section
variable {P : Program}
theorem Jd (a : AV) : eqA0 a a := by
 cases a <;> simp [eqA0]
 exact fun _ _ _ _ => rfl
theorem yS : ∀ l : List AV, eqL0 l l
 | [] => trivial
 | a :: l => ⟨Jd a, yS l⟩
theorem UE (a : AV) : eqA a a := by
 cases a with
 | agg l => exact yS l
 | tup l => exact yS l
 | _ => unfold eqA; exact Jd _
theorem ZI : ∀ l : List AV, eqL l l
 | [] => trivial
 | a :: l => by
  unfold eqL
  split
  ·rename_i h1 h2; cases h1
  ·rename_i h1 h2; cases h1; cases h2; exact ZI l
  ·rename_i h1 h2; cases h1; cases h2; exact ⟨UE _, ZI l⟩
  ·rename_i hx; exact (hx _ _ _ _ rfl rfl).elim
end
end Go.Sx
end

/- A contract that is the callee's own run: for small functions without loops. -/
section
namespace Go.Sx
variable [Stat]
section
variable {P : Program} {Γ : Nat → Option Ctr} {fn : Func}
def inlC (P : Program) (Γ : Nat → Option Ctr) (n : Nat) (fn : Func) : Ctr where
 fresh := false
 spec args hc := match fn.body with
  | some c => (run P Γ hc.length n [.code c] (kW fn args hc)).bind fun lf => match lf with
   | .ret st => (resX P st fn.results.toList).bind fun rs => bif decide (hc.length ≤ st.heap.length) then .leaf (exp2 st.heap (List.range st.heap.length) (resV rs), expH st.heap (List.range st.heap.length)) else .fail
   | _ => .fail
  | none => .fail
theorem nodup_range' : ∀ (n s : Nat), jX (List.range' s n) = true
 | 0, _ => rfl
 | n + 1, s => by
  rw [List.range'_succ]
  simp only [jX, Bool.and_eq_true]
  refine ⟨?_, nodup_range' n (s + 1)⟩
  simp [List.contains_eq_mem, List.mem_range'_1]
theorem Ys (b : Blk) : eqB b b := by
 cases b with
 | dead => trivial
 | box l => exact ZI l
 | arr n sz g => exact ⟨rfl, rfl, fun _ _ _ _ => rfl⟩
 | arrI k n f => exact ⟨rfl, fun _ _ _ _ => rfl⟩
 | arrS n f => exact ⟨rfl, fun _ _ _ _ => rfl⟩
 | map ag sh has get => exact ⟨rfl, rfl, fun _ => rfl, fun _ _ => rfl⟩
theorem Yn (h : Heap) : eqH h h := by
 induction h with
 | nil => trivial
 | cons b l ih => exact ⟨Ys b, ih⟩
theorem wP {g n : Nat} (hmix : P.follows .mixedOrders = true) (hΓ : ∀ g c, Γ g = some c → zg P g c) (hf : P.funcs[g]? = some fn) (hn : (fn.name == "runtime.NumGoroutine") = false) : zg P g (inlC P Γ n fn) := by
 intro args hc Q hq hfr
 simp only [inlC] at hq
 cases hb : fn.body with
 | none => rw [hb] at hq; exact hq.elim
 | some c =>
  rw [hb] at hq
  simp only [Tree.zo] at hq
  refine zdp hf hb hn hfr fun O w0 σ0 hl => Safe.run hmix hΓ n (Tree.zS (fun lf h => ?_) hq)
  cases lf with
  | ret st =>
   simp only [Tree.zo] at h
   refine Tree.zS (fun rs h => ?_) h
   cases hd : decide (hc.length ≤ st.heap.length) with
   | false => rw [hd] at h; exact h.elim
   | true =>
    rw [hd] at h
    have h : Q (exp2 st.heap (List.range st.heap.length) (resV rs), expH st.heap (List.range st.heap.length)) := h
    have hd := of_decide_eq_true hd
    exact ⟨List.range st.heap.length, by rw [List.range_eq_range']; exact nodup_range' _ _, fun i hi => List.mem_range.1 hi, fun j hj => by rw [List.getElem?_range (by omega)], fun h => (by cases h), _, _, LeA.refl _, Yn _, by simp [expH], h⟩
  | _ => exact h.elim
end
end Go.Sx
end

/- Orders of what is known. -/
section
namespace Go.Nov
open Go.Sx
structure Fx where
 name : List UInt8
 date : Int
 value : List UInt8
structure Ch where
 zdm : List UInt8
 name : List UInt8
 date : Int
 first : Bool
abbrev Fx.nil : Fx := ⟨[], 0, []⟩
abbrev Ch.nil : Ch := ⟨[], [], 0, false⟩
def Fx.cell (f : Fx) : Nat → AV
 | 0 => .str f.name
 | 1 => .int .i64 f.date
 | 2 => .str f.value
 | _ => .undef
def Ch.cell (c : Ch) : Nat → AV
 | 0 => .str c.zdm
 | 1 => .str c.name
 | 2 => .int .i64 c.date
 | 3 => .bool c.first
 | _ => .undef
def Fx.av (f : Fx) : AV := .agg [.str f.name, .int .i64 f.date, .str f.value]
def Ch.av (c : Ch) : AV := .agg [.str c.zdm, .str c.name, .int .i64 c.date, .bool c.first]
end Go.Nov
namespace Go.Nov
end Go.Nov
namespace Go.Nov
end Go.Nov
namespace Go.Nov
end Go.Nov
namespace Go.Nov
end Go.Nov
end

/- A place in an ordered list. -/
section
namespace Go.Nov
open Go.Sx
structure OrdK {α : Type} (c : α → α → Int) : Prop where
 lt : ∀ a b d, c a b < 0 → c b d < 0 → c a d < 0
 eq : ∀ a b d, c a b < 0 → c b d = 0 → c a d < 0
section
variable {α : Type} {c : α → α → Int} {z x : α}
end
def zdh (l : List Fx) (a : List UInt8) (d : Int) : List UInt8 × Bool := match l.find? fun x => decide (x.name = a) && decide (x.date = d) with
 | some x => (x.value, true)
 | none => ([], false)
end Go.Nov
end

/- Rationals: what they mean. -/
section
namespace Go.Nov
theorem zf3 {b : List UInt8} (h : allD b) (hn : b ≠ []) (hz : b.getD 0 0 ≠ 48) : numD b ≠ 0 ∧ txt (numD b) = b := by
 have hd := UP h
 have hl : 0 < b.length := List.length_pos_iff.2 hn
 have htl : Ten.tlen (dg b) = (dg b).length := by
  rcases Nat.lt_or_ge (Ten.tlen (dg b)) (dg b).length with h1 | h1
  ·exfalso
   have h2 := Ten.qX (dg b) ((dg b).length - 1) (by omega)
   rw [kp] at h2
   have e : (dg b).getD (b.length - 1) 0 = (b.getD 0 0).toNat - 48 := by
    simp only [dg, List.getD_eq_getElem?_getD]
    rw [List.getElem?_reverse (by simp; omega)]
    simp [List.getElem?_eq_getElem hl, show b.length - 1 - (b.length - 1) = 0 by omega]
   rw [e] at h2
   have h3 : 48 ≤ (b.getD 0 0).toNat := by
    cases b with
    | nil => exact absurd rfl hn
    | cons c r => exact (h c (by simp)).1
   apply hz
   apply UInt8.toNat_inj.1
   show _ = 48
   omega
  ·exact Nat.le_antisymm (Ten.zU _) h1
 have hc : dec (numD b) = dg b := by
  rw [← Jy]
  exact Ten.QB hd htl
 have h0 : numD b ≠ 0 := by
  intro h0
  rw [h0] at hc
  have : dg b = [] := by rw [← hc]; exact Ten.zH
  have := congrArg List.length this
  rw [kp, List.length_nil] at this
  omega
 refine ⟨h0, ?_⟩
 rw [yf h0, hc, dg, ← List.map_reverse, List.reverse_reverse, List.map_map]
 conv => rhs; rw [← List.map_id b]
 refine List.map_congr_left fun c hcm => ?_
 obtain ⟨h1, h2⟩ := h c hcm
 apply UInt8.toNat_inj.1
 simp only [Function.comp, id]
 rw [uR (by omega)]
 omega
theorem Xq {s : List UInt8} (h : errI s = 0) : wr (negI s) (numI s) = (s, 0) := by
 obtain ⟨neg, b, h1, h2, h3, h4, h5, h6⟩ := uO h
 have e1 : negI s = neg := by simp [negI, h2]
 have e2 : numI s = numD b := by simp [numI, h2]
 rw [e1, e2]
 by_cases hz : b.getD 0 0 = 48
 ·have hb : b = [48] := by
   cases b with
   | nil => exact absurd rfl h5
   | cons c r =>
    cases r with
    | nil => have : c = 48 := hz; rw [this]
    | cons d r => rw [wO hz (by simp)] at h3; cases h3
  subst hb
  cases neg with
  | true => cases h3
  | false => rw [h1]; rfl
 ·obtain ⟨g1, g2⟩ := zf3 h4 h5 hz
  unfold wr
  rw [if_neg g1, g2, if_neg, h1]
  have := xz g1
  rw [g2] at this
  omega
def zI (s : List UInt8) : Int := if negI s then -(numI s : Int) else numI s
theorem qE (s : List UInt8) : (zI s).natAbs = numI s := by unfold zI; split <;> simp
theorem xi {s : List UInt8} (h : errI s = 0) : negI s = decide (zI s < 0) := by
 unfold zI
 cases hn : negI s with
 | false => simp
 | true =>
  simp only [if_true]
  have : numI s ≠ 0 := by
   intro h0
   have := (wY h).2 h0
   rw [this] at hn
   cases hn
  exact (decide_eq_true (by omega)).symm
def wz (z : Int) : List UInt8 × Int := wr (decide (z < 0)) z.natAbs
theorem vz {s : List UInt8} (h : errI s = 0) : wz (zI s) = (s, 0) := by
 unfold wz
 rw [qE, ← xi h, Xq h]
theorem zfu {neg : Bool} {x : Nat} (h : (wr neg x).2 = 0) : zI (wr neg x).1 = if neg then -(x : Int) else x := by
 obtain ⟨h1, h2, h3⟩ := uz h
 unfold zI
 rw [h2, h3]
 by_cases h0 : x = 0
 ·subst h0; simp
 ·cases neg <;> simp [h0]
theorem jt {z : Int} (h : (wz z).2 = 0) : zI (wz z).1 = z := by
 unfold wz at h ⊢
 rw [zfu h]
 by_cases hz : z < 0
 ·rw [decide_eq_true hz]; simp only [if_true]; omega
 ·rw [decide_eq_false hz]; simp only [Bool.false_eq_true, if_false]; omega
theorem wu {z : Int} (h : (wz z).2 = 0) : errI (wz z).1 = 0 := (uz h).1
theorem Q6 {neg : Bool} {x : Nat} : wr neg x = wz (if neg then -(x : Int) else x) := by
 unfold wz
 by_cases h0 : x = 0
 ·subst h0
  cases neg <;> rfl
 ·cases neg with
  | false => simp only [Bool.false_eq_true, if_false, Int.natAbs_natCast]; rw [decide_eq_false (by omega)]
  | true => simp only [if_true, Int.natAbs_neg, Int.natAbs_natCast]; rw [decide_eq_true (by omega)]
theorem zb5 (m : Bool) (x : Nat) (n : Bool) (y : Nat) : (if (sumS m x n y).1 then -((sumS m x n y).2 : Int) else (sumS m x n y).2) = (if m then -(x : Int) else x) + (if n then -(y : Int) else y) := by
 unfold sumS
 by_cases h : m = n
 ·subst h
  rw [if_pos rfl]
  cases m <;> simp <;> omega
 ·rw [if_neg h]
  by_cases h2 : y ≤ x
  ·rw [if_pos h2]
   cases m <;> cases n <;> first | exact absurd rfl h | (simp; omega)
  ·rw [if_neg h2]
   cases m <;> cases n <;> first | exact absurd rfl h | (simp; omega)
theorem zbb {s t : List UInt8} (h : zq s t = 0) : addI s t = wz (zI s + zI t) := by
 unfold addI
 rw [if_pos h, Q6, zb5]; rfl
theorem Kt {s t : List UInt8} (h : zq s t = 0) : subI s t = wz (zI s - zI t) := by
 unfold subI
 rw [if_pos h, Q6, zb5]
 congr 1
 unfold zI
 cases negI s <;> cases negI t <;> simp <;> omega
theorem wc {s t : List UInt8} (h : zq s t = 0) : mulI s t = wz (zI s * zI t) := by
 unfold mulI
 rw [if_pos h, Q6]
 congr 1
 unfold zI
 cases negI s <;> cases negI t <;> simp [Int.neg_mul, Int.mul_neg]
end Go.Nov
end

/- Rationals: how a number is written; what the operations yield. -/
section
namespace Go.Nov
def qv (a : List UInt8) : Rat := Rat.divInt (zI (numR a)) (zI (denR a))
def qstr (r : Rat) : List UInt8 := if r.den = 1 then (wz r.num).1 else (wz r.num).1 ++ [47] ++ (wz r.den).1
def vg (r : Rat) : Prop := room r.num.natAbs ∧ room r.den
theorem za6 (neg : Bool) (x : Nat) : ∀ c ∈ (wr neg x).1, c ≠ 47 := by
 intro c hc h
 subst h
 unfold wr at hc
 split at hc
 ·simp at hc
 ·rename_i h0
  split at hc
  ·simp at hc
  ·have ht : ¬ (47 : UInt8) ∈ txt x := fun hm => by
    have := (Ya h0 _ hm).1
    have e : (47 : UInt8).toNat = 47 := rfl
    omega
   cases neg <;> simp [sgn] at hc <;> exact ht hc
theorem Ub {u v : List UInt8} (h : ∀ c ∈ u, c ≠ 47) : cutR (u ++ [47] ++ v) = (u, v, true) := by
 have hs : z5 (u ++ [47] ++ v) = u.length := by
  refine W8 (by simp) (by simp [List.getD]) fun j hj => ?_
  rw [List.append_assoc]
  simp only [List.getD, List.getElem?_append_left hj, List.getElem?_eq_getElem hj, Option.getD_some]
  exact h _ (List.getElem_mem hj)
 rw [uK (by rw [hs]; simp), hs]
 simp
theorem Yj {u : List UInt8} (h : ∀ c ∈ u, c ≠ 47) : cutR u = (u, [], false) := by
 have hs : z5 u = u.length := Ze fun j hj => by
  simp only [List.getD, List.getElem?_eq_getElem hj, Option.getD_some]
  exact h _ (List.getElem_mem hj)
 exact J2 (by omega)
theorem WL (z : Int) : ∀ c ∈ (wz z).1, c ≠ 47 := za6 _ _
theorem xn {z : Int} (h : room z.natAbs) : (wz z).2 = 0 := wG h
theorem zeh : wz 1 = ([49], 0) := kb
theorem xH {r : Rat} (h : vg r) : numR (qstr r) = (wz r.num).1 ∧ denR (qstr r) = (wz (r.den : Int)).1 ∧ (cutR (qstr r)).2.2 = decide (r.den ≠ 1) := by
 unfold qstr
 by_cases h1 : r.den = 1
 ·rw [if_pos h1]
  have := Yj (WL r.num)
  unfold numR denR
  rw [this, h1]
  exact ⟨rfl, by simp only [Bool.false_eq_true, if_false]; exact (congrArg Prod.fst zeh).symm, by simp⟩
 ·rw [if_neg h1]
  have := Ub (v := (wz (r.den : Int)).1) (WL r.num)
  unfold numR denR
  rw [this]
  exact ⟨rfl, rfl, by simp [h1]⟩
theorem yH {r : Rat} (h : vg r) : qv (qstr r) = r := by
 obtain ⟨h1, h2, _⟩ := xH h
 unfold qv
 rw [h1, h2, jt (xn h.1), jt (xn (by rw [Int.natAbs_natCast]; exact h.2)), Rat.divInt_ofNat, Rat.mkRat_self]
theorem vQ {r : Rat} (h : vg r) : errR (qstr r) = 0 := by
 obtain ⟨h1, h2, h3⟩ := xH h
 have e1 := wu (xn h.1)
 have e2 : errI (wz (r.den : Int)).1 = 0 := wu (xn (by rw [Int.natAbs_natCast]; exact h.2))
 have z1 := jt (xn h.1)
 have z2 : zI (wz (r.den : Int)).1 = r.den := jt (xn (by rw [Int.natAbs_natCast]; exact h.2))
 unfold errR
 by_cases hd : r.den = 1
 ·rw [h3, hd]
  simp only [ne_eq, not_true_eq_false, decide_false, Bool.false_eq_true, if_false]
  unfold qstr
  rw [if_pos hd]
  exact e1
 ·have hc : (cutR (qstr r)).2.2 = true := by rw [h3]; simp [hd]
  have n1 : (cutR (qstr r)).1 = (wz r.num).1 := h1
  have n2 : (cutR (qstr r)).2.1 = (wz (r.den : Int)).1 := by unfold denR at h2; rw [hc] at h2; exact h2
  rw [hc, if_pos rfl, n1, n2]
  have hp := r.den_pos
  have hneg : negI (wz (r.den : Int)).1 = false := by rw [xi e2, z2]; exact decide_eq_false (by omega)
  have hn48 : (wz (r.den : Int)).1 ≠ [48] := fun h => by
   rw [h] at z2
   have : zI [48] = 0 := rfl
   omega
  have hn49 : (wz (r.den : Int)).1 ≠ [49] := fun h => by
   rw [h] at z2
   have : zI [49] = 1 := rfl
   omega
  rw [if_neg (by simp [e1, e2, hneg, hn48, hn49]), if_neg (by simp [e1, e2])]
  have hg : gcdR (wz r.num).1 (wz (r.den : Int)).1 = wr false (Nat.gcd r.num.natAbs r.den) := by
   unfold gcdR
   rw [if_pos (zk.2 ⟨e1, e2⟩), ← qE, ← qE, z1, z2, Int.natAbs_natCast]
  have hr : Nat.gcd r.num.natAbs r.den = 1 := r.reduced
  rw [hg, hr, kb, if_neg (by simp)]
theorem xh {a : List UInt8} (h : errR a = 0) : (qv a).num = zI (numR a) ∧ ((qv a).den : Int) = zI (denR a) ∧ qstr (qv a) = a ∧ vg (qv a) := by
 obtain ⟨e1, e2, e3, e4⟩ := q7 h
 have hz : zI (denR a) = numI (denR a) := by unfold zI; rw [e3]; rfl
 have hcop : Nat.gcd (numI (numR a)) (numI (denR a)) = 1 := by
  unfold errR at h
  cases hc : (cutR a).2.2 with
  | true =>
   rw [hc, if_pos rfl] at h
   have hd : denR a = (cutR a).2.1 := by unfold denR; rw [hc]; rfl
   rw [hd] at e2 e4 ⊢
   unfold numR at e1 ⊢
   split at h
   ·cases h
   split at h
   ·cases h
   split at h
   ·cases h
   ·rename_i hg
    rw [Classical.not_not] at hg
    unfold gcdR at hg
    rw [if_pos (zk.2 ⟨e1, e2⟩)] at hg
    exact (Z6 (Z3 e2 e4).2).1 hg
  | false =>
   have : denR a = [49] := by unfold denR; rw [hc]; rfl
   rw [this]
   exact Nat.gcd_one_right _
 have hq : qv a = ⟨zI (numR a), numI (denR a), e4, by rw [qE]; exact hcop⟩ := by
  unfold qv
  rw [hz, Rat.mk_eq_divInt]
 have hroom : vg (qv a) := by
  rw [hq]
  exact ⟨by show room (zI (numR a)).natAbs; rw [qE]; exact qU e1, qU e2⟩
 refine ⟨by rw [hq], by rw [hq, hz], ?_, hroom⟩
 rw [hq]
 unfold qstr
 simp only
 rw [← hz, vz e1, vz e2]
 cases hc : (cutR a).2.2 with
 | true =>
  have hd : denR a = (cutR a).2.1 := by unfold denR; rw [hc]; rfl
  have hn1 : numI (denR a) ≠ 1 := by
   intro h1
   have : denR a = [49] := by
    have := (Xq e2)
    rw [e3, h1, kb] at this
    exact (congrArg Prod.fst this).symm
   unfold errR at h
   rw [hc, if_pos rfl, if_pos (by rw [← hd, this]; simp)] at h
   cases h
  rw [if_neg hn1, hd]
  simp only [numR]
  unfold cutR at hc ⊢
  split at hc
  ·rename_i hs
   rw [if_pos hs]
   simp only
   have h47 := Qf hs
   have : a = a.take (z5 a) ++ ([a.getD (z5 a) 0] ++ a.drop (z5 a + 1)) := by
    conv => lhs; rw [← List.take_append_drop (z5 a) a]
    congr 1
    rw [List.drop_eq_getElem_cons hs]
    simp [List.getD, List.getElem?_eq_getElem hs]
   rw [h47] at this
   rw [List.append_assoc]
   exact this.symm
  ·cases hc
 | false =>
  have hd : denR a = [49] := by unfold denR; rw [hc]; rfl
  rw [hd]
  have : numI [49] = 1 := rfl
  rw [if_pos this]
  unfold numR
  unfold cutR at hc ⊢
  split at hc
  ·cases hc
  ·rename_i hs
   rw [if_neg hs]
theorem KJ {a b : List UInt8} (ha : errR a = 0) (hb : errR b = 0) (h : qv a = qv b) : a = b := by
 rw [← (xh ha).2.2.1, ← (xh hb).2.2.1, h]
end Go.Nov
end

/- Rationals: what the operations yield. -/
section
namespace Go.Nov
theorem zd8 (a b : Int) (hb : b ≠ 0) : b.sign * a = if (decide (a < 0) != decide (b < 0)) = true then -(a.natAbs : Int) else a.natAbs := by
 by_cases h1 : a < 0
 ·rw [decide_eq_true h1]
  by_cases h2 : b < 0
  ·rw [decide_eq_true h2, Int.sign_eq_neg_one_of_neg h2]; simp; omega
  ·rw [decide_eq_false h2, Int.sign_eq_one_of_pos (by omega)]; simp; omega
 ·rw [decide_eq_false h1]
  by_cases h2 : b < 0
  ·rw [decide_eq_true h2, Int.sign_eq_neg_one_of_neg h2]; simp; omega
  ·rw [decide_eq_false h2, Int.sign_eq_one_of_pos (by omega)]; simp; omega
theorem zbl {n d : List UInt8} (hn : errI n = 0) (hd : errI d = 0) (h0 : numI d ≠ 0) : qJ n d = (qstr (Rat.divInt (zI n) (zI d)), 0) ∧ vg (Rat.divInt (zI n) (zI d)) := by
 have hz0 : zI d ≠ 0 := fun h => h0 (by rw [← qE, h]; rfl)
 have hg : (zI d).gcd (zI n) = Nat.gcd (numI n) (numI d) := by
  show Nat.gcd _ _ = _
  rw [qE, qE, Nat.gcd_comm]
 have hden : (Rat.divInt (zI n) (zI d)).den = numI d / Nat.gcd (numI n) (numI d) := by
  rw [Rat.den_divInt, if_neg hz0, hg, qE]
 have hdv : Nat.gcd (numI n) (numI d) ∣ numI n := Nat.gcd_dvd_left _ _
 have hnum : (Rat.divInt (zI n) (zI d)).num = if (negI n != negI d) = true then -((numI n / Nat.gcd (numI n) (numI d) : Nat) : Int) else ((numI n / Nat.gcd (numI n) (numI d) : Nat) : Int) := by
  rw [Rat.num_divInt, hg, zd8 _ _ hz0, qE, ← xi hn, ← xi hd]
  split
  ·rw [Int.neg_ediv_of_dvd (Int.natCast_dvd_natCast.2 hdv), Int.natCast_ediv]
  ·rw [Int.natCast_ediv]
 have hroom : vg (Rat.divInt (zI n) (zI d)) := by
  refine ⟨?_, by rw [hden]; exact room_le (Nat.div_le_self _ _) (qU hd)⟩
  rw [hnum]
  have : room (numI n / Nat.gcd (numI n) (numI d)) := room_le (Nat.div_le_self _ _) (qU hn)
  split
  ·rw [Int.natAbs_neg, Int.natAbs_natCast]; exact this
  ·rw [Int.natAbs_natCast]; exact this
 refine ⟨?_, hroom⟩
 unfold qJ
 rw [if_neg (by rw [zk.2 ⟨hn, hd⟩]; simp), if_neg h0]
 congr 1
 unfold Q8 qstr
 rw [hden, hnum]
 have e2 : (wr false (numI d / Nat.gcd (numI n) (numI d))).1 = (wz ((numI d / Nat.gcd (numI n) (numI d) : Nat) : Int)).1 := by rw [Q6]; rfl
 rw [Q6, e2]
theorem Wl {n d : List UInt8} {e f : Int} {z w : Int} (hw : w ≠ 0) (hz : (n, e) = wz z) (hd : (d, f) = wz w) : frac (n, e) (d, f) = ([], 14) ∨ (frac (n, e) (d, f) = (qstr (Rat.divInt z w), 0) ∧ vg (Rat.divInt z w)) := by
 unfold frac
 by_cases he : e = 0
 ·by_cases hf : f = 0
  ·subst he; subst hf
   have h1 : (wz z).2 = 0 := by rw [← hz]
   have h2 : (wz w).2 = 0 := by rw [← hd]
   have n1 : n = (wz z).1 := by rw [← hz]
   have n2 : d = (wz w).1 := by rw [← hd]
   have z1 := jt h1
   have z2 := jt h2
   have e1 := wu h1
   have e2 := wu h2
   rw [← n1] at z1 e1
   rw [← n2] at z2 e2
   right
   rw [if_neg (by simp)]
   have := zbl e1 e2 (fun h => hw (by rw [← z2]; have := qE d; omega))
   rw [z1, z2] at this
   exact this
  ·left; rw [if_pos (.inr hf)]
 ·left; rw [if_pos (.inl he)]
section
variable {a b : List UInt8} (ha : errR a = 0) (hb : errR b = 0)
include ha hb
theorem u9 : errI (numR a) = 0 ∧ errI (denR a) = 0 ∧ errI (numR b) = 0 ∧ errI (denR b) = 0 ∧ zI (denR a) ≠ 0 ∧ zI (denR b) ≠ 0 ∧ zW a b = 0 := by
 obtain ⟨a1, a2, _, a4⟩ := q7 ha
 obtain ⟨b1, b2, _, b4⟩ := q7 hb
 exact ⟨a1, a2, b1, b2, fun h => a4 (by rw [← qE, h]; rfl), fun h => b4 (by rw [← qE, h]; rfl), by unfold zW; rw [if_pos ha]; exact hb⟩
theorem Wa : zM a b = 14 ∨ (zM a b = 0 ∧ mulI (numR a) (denR b) = wz (zI (numR a) * zI (denR b)) ∧ mulI (numR b) (denR a) = wz (zI (numR b) * zI (denR a)) ∧ (mulI (numR a) (denR b)).2 = 0 ∧ (mulI (numR b) (denR a)).2 = 0) := by
 obtain ⟨a1, a2, b1, b2, a4, b4, h2⟩ := u9 ha hb
 have m1 := wc (zk.2 ⟨a1, b2⟩)
 have m2 := wc (zk.2 ⟨b1, a2⟩)
 unfold zM
 rw [if_neg (by rw [h2]; simp)]
 by_cases h : (mulI (numR a) (denR b)).2 ≠ 0 ∨ (mulI (numR b) (denR a)).2 ≠ 0
 ·left; rw [if_pos h]
 ·right
  rw [if_neg h]
  simp only [not_or, Classical.not_not] at h
  exact ⟨rfl, m1, m2, h.1, h.2⟩
theorem Wj : addR a b = ([], 14) ∨ (addR a b = (qstr (qv a + qv b), 0) ∧ vg (qv a + qv b)) := by
 obtain ⟨a1, a2, b1, b2, a4, b4, h2⟩ := u9 ha hb
 unfold addR
 rcases Wa ha hb with h | ⟨h, m1, m2, k1, k2⟩
 ·left; rw [h]; rfl
 ·rw [h, if_neg (by simp)]
  rw [m1] at k1
  rw [m2] at k2
  have e1 := wu k1
  have e2 := wu k2
  have := Wl (n := (addI (mulI (numR a) (denR b)).1 (mulI (numR b) (denR a)).1).1) (e := (addI (mulI (numR a) (denR b)).1 (mulI (numR b) (denR a)).1).2) (d := (mulI (denR a) (denR b)).1) (f := (mulI (denR a) (denR b)).2)
   (z := zI (numR a) * zI (denR b) + zI (numR b) * zI (denR a)) (w := zI (denR a) * zI (denR b)) (Int.mul_ne_zero a4 b4) (by rw [m1, m2, zbb (zk.2 ⟨e1, e2⟩), jt k1, jt k2]) (by rw [wc (zk.2 ⟨a2, b2⟩)])
  unfold qv
  rw [Rat.divInt_add_divInt _ _ a4 b4]
  exact this
theorem JI : subR a b = ([], 14) ∨ (subR a b = (qstr (qv a - qv b), 0) ∧ vg (qv a - qv b)) := by
 obtain ⟨a1, a2, b1, b2, a4, b4, h2⟩ := u9 ha hb
 unfold subR
 rcases Wa ha hb with h | ⟨h, m1, m2, k1, k2⟩
 ·left; rw [h]; rfl
 ·rw [h, if_neg (by simp)]
  rw [m1] at k1
  rw [m2] at k2
  have e1 := wu k1
  have e2 := wu k2
  have := Wl (n := (subI (mulI (numR a) (denR b)).1 (mulI (numR b) (denR a)).1).1) (e := (subI (mulI (numR a) (denR b)).1 (mulI (numR b) (denR a)).1).2) (d := (mulI (denR a) (denR b)).1) (f := (mulI (denR a) (denR b)).2)
   (z := zI (numR a) * zI (denR b) - zI (numR b) * zI (denR a)) (w := zI (denR a) * zI (denR b)) (Int.mul_ne_zero a4 b4) (by rw [m1, m2, Kt (zk.2 ⟨e1, e2⟩), jt k1, jt k2]) (by rw [wc (zk.2 ⟨a2, b2⟩)])
  unfold qv
  rw [Rat.divInt_sub_divInt _ _ a4 b4]
  exact this
theorem Ug : mulR a b = ([], 14) ∨ (mulR a b = (qstr (qv a * qv b), 0) ∧ vg (qv a * qv b)) := by
 obtain ⟨a1, a2, b1, b2, a4, b4, h2⟩ := u9 ha hb
 unfold mulR
 rw [h2, if_neg (by simp)]
 have := Wl (n := (mulI (numR a) (numR b)).1) (e := (mulI (numR a) (numR b)).2) (d := (mulI (denR a) (denR b)).1) (f := (mulI (denR a) (denR b)).2)
  (z := zI (numR a) * zI (numR b)) (w := zI (denR a) * zI (denR b)) (Int.mul_ne_zero a4 b4) (by rw [wc (zk.2 ⟨a1, b1⟩)]) (by rw [wc (zk.2 ⟨a2, b2⟩)])
 unfold qv
 rw [Rat.divInt_mul_divInt]
 exact this
theorem KL : (qv b = 0 ∧ divR a b = ([], 16)) ∨ (qv b ≠ 0 ∧ (divR a b = ([], 14) ∨ (divR a b = (qstr (qv a / qv b), 0) ∧ vg (qv a / qv b)))) := by
 obtain ⟨a1, a2, b1, b2, a4, b4, h2⟩ := u9 ha hb
 have hq : qv b = 0 ↔ zI (numR b) = 0 := by
  rw [← Rat.num_eq_zero, (xh hb).1]
 have hz : numR b = [48] ↔ zI (numR b) = 0 := by
  rw [wY b1]
  have := qE (numR b)
  omega
 unfold divR
 rw [h2, if_neg (by simp)]
 by_cases h0 : zI (numR b) = 0
 ·left
  exact ⟨hq.2 h0, by rw [if_pos (hz.2 h0)]⟩
 ·right
  refine ⟨fun h => h0 (hq.1 h), ?_⟩
  rw [if_neg (fun h => h0 (hz.1 h))]
  have := Wl (n := (mulI (numR a) (denR b)).1) (e := (mulI (numR a) (denR b)).2) (d := (mulI (denR a) (numR b)).1) (f := (mulI (denR a) (numR b)).2)
   (z := zI (numR a) * zI (denR b)) (w := zI (denR a) * zI (numR b)) (Int.mul_ne_zero a4 h0) (by rw [wc (zk.2 ⟨a1, b2⟩)]) (by rw [wc (zk.2 ⟨a2, b1⟩)])
  unfold qv
  rw [Rat.div_def, Rat.inv_divInt, Rat.divInt_mul_divInt]
  exact this
end
theorem xp {a b : List UInt8} (ha : errR a = 0) (hb : errR b = 0) (h : (addR a b).2 = 0) : errR (addR a b).1 = 0 ∧ qv (addR a b).1 = qv a + qv b := by
 rcases Wj ha hb with h1 | ⟨h1, h2⟩
 ·rw [h1] at h; cases h
 ·rw [h1]; exact ⟨vQ h2, yH h2⟩
theorem kj {a b : List UInt8} (ha : errR a = 0) (hb : errR b = 0) (h : (subR a b).2 = 0) : errR (subR a b).1 = 0 ∧ qv (subR a b).1 = qv a - qv b := by
 rcases JI ha hb with h1 | ⟨h1, h2⟩
 ·rw [h1] at h; cases h
 ·rw [h1]; exact ⟨vQ h2, yH h2⟩
theorem X6 {a b : List UInt8} (ha : errR a = 0) (hb : errR b = 0) (h : (mulR a b).2 = 0) : errR (mulR a b).1 = 0 ∧ qv (mulR a b).1 = qv a * qv b := by
 rcases Ug ha hb with h1 | ⟨h1, h2⟩
 ·rw [h1] at h; cases h
 ·rw [h1]; exact ⟨vQ h2, yH h2⟩
theorem Wb {a b : List UInt8} (ha : errR a = 0) (hb : errR b = 0) (h : (divR a b).2 = 0) : qv b ≠ 0 ∧ errR (divR a b).1 = 0 ∧ qv (divR a b).1 = qv a / qv b := by
 rcases KL ha hb with ⟨h0, h1⟩ | ⟨h0, h1 | ⟨h1, h2⟩⟩
 ·rw [h1] at h; cases h
 ·rw [h1] at h; cases h
 ·rw [h1]; exact ⟨h0, vQ h2, yH h2⟩
end Go.Nov
end

/- Expressions: depth, strings, sorts. -/
section
namespace Go.Nov
open Go.Sx
def zg0 (k : Int) (r n : List UInt8) (d : Int) (l : Nat) : Bool :=
 decide (l = 0) && (if k = 1 then decide (errR r = 0) && decide (n = []) && decide (d = 0) else if k = 2 then decide (r = []) && zdf n && dayB d else if k = 3 then decide (r = []) && zdf n && decide (d = 0) else false)
def zft (k : Int) (r n : List UInt8) (d : Int) (ss : List Int) : Int :=
 if zfe k = true then (if r = [] ∧ n = [] ∧ d = 0 ∧ ss = YU k then zel k else 0) else if zg0 k r n d ss.length = true then 1 else 0
namespace Ex
mutual
def depth : Ex → Nat
 | mk _ _ _ _ s => 1 + Uk s
def Uk : List Ex → Nat
 | [] => 0
 | x :: l => max (depth x) (Uk l)
end
mutual
def KY : Ex → Nat
 | mk _ r n _ s => r.length + n.length + Qa s
def Qa : List Ex → Nat
 | [] => 0
 | x :: l => KY x + Qa l
end
mutual
def zfz : Ex → Int
 | mk k r n d s => zft k r n d (zdu s)
def zdu : List Ex → List Int
 | [] => []
 | x :: l => zfz x :: zdu l
end
mutual
def thin : Ex → Prop
 | mk _ r n _ s => r.length ≤ 2 ^ 48 ∧ n.length ≤ 2 ^ 48 ∧ XG s
def XG : List Ex → Prop
 | [] => True
 | x :: l => thin x ∧ XG l
end
mutual
theorem Yr : ∀ x : Ex, thin x → KY x ≤ size x * 2 ^ 49
 | mk k r n d s, h => by
  rw [thin] at h
  have := Je s h.2.2
  rw [KY, size, Nat.add_mul]
  omega
theorem Je : ∀ l : List Ex, XG l → Qa l ≤ Xs l * 2 ^ 49
 | [], _ => by simp [Qa]
 | x :: l, h => by
  rw [XG] at h
  have h1 := Yr x h.1
  have h2 := Je l h.2
  rw [Qa, Xs, Nat.add_mul]
  omega
end
end Ex
end Go.Nov
end

/- Truth values joined. -/
section
namespace Go.Nov
theorem orf {a b : Bool} : (bif a then true else b) = false ↔ a = false ∧ b = false := by cases a <;> simp
theorem andt {a b : Bool} : (bif a then b else false) = true ↔ a = true ∧ b = true := by cases a <;> simp
end Go.Nov
end

/- Tapes: checks, runs, values, degrees. -/
section
namespace Go.Nov
open Go.Sx
structure TOp where
 kind : Int
 a : Int
 b : Int
 rat : List UInt8
abbrev TOp.nil : TOp := ⟨0, 0, 0, []⟩
def TOp.cell (o : TOp) : Nat → AV
 | 0 => .int .u8 o.kind
 | 1 => .int .i64 o.a
 | 2 => .int .i64 o.b
 | 3 => .str o.rat
 | _ => .undef
def opG (l : List TOp) : Nat → Nat → AV := fun j => (l.getD j TOp.nil).cell
def opS (l : List TOp) : AV := .sl l.length 4 (opG l)
structure Tp where
 n : Int
 ops : List TOp
def Tp.av (t : Tp) : AV := .agg [.int .i64 t.n, opS t.ops]
def ratG (l : List (List UInt8)) : Nat → Nat → AV := fun j _ => .str (l.getD j [])
def ratS (l : List (List UInt8)) : AV := .sl l.length 1 (ratG l)
def okOp (n : Int) (i : Nat) (o : TOp) : Bool :=
 if o.kind = 1 then decide (0 ≤ o.a) && decide (o.a < n) && decide (o.b = 0) && decide (o.rat = [])
 else if o.kind = 2 then decide (errR o.rat = 0) && decide (o.a = 0) && decide (o.b = 0)
 else if 3 ≤ o.kind ∧ o.kind ≤ 6 then decide (0 ≤ o.a) && decide (o.a < i) && (decide (0 ≤ o.b) && decide (o.b < i)) && decide (o.rat = [])
 else false
def ji (t : Tp) (i : Nat) : Bool := (List.range i).all fun k => okOp t.n k (t.ops.getD k TOp.nil)
theorem ZB (t : Tp) (i : Nat) : ji t (i + 1) = (ji t i && okOp t.n i (t.ops.getD i TOp.nil)) := by
 unfold ji
 rw [List.range_succ, List.all_append]
 simp
theorem KS (t : Tp) : ∀ {i j : Nat}, i ≤ j → ji t j = true → ji t i = true := by
 intro i j h hj
 unfold ji at hj ⊢
 rw [List.all_eq_true] at hj ⊢
 intro k hk
 exact hj k (List.mem_range.2 (Nat.lt_of_lt_of_le (List.mem_range.1 hk) h))
theorem Z7 {t : Tp} {i k : Nat} (h : ji t i = true) (hk : k < i) : okOp t.n k (t.ops.getD k TOp.nil) = true := by
 unfold ji at h
 rw [List.all_eq_true] at h
 exact h k (List.mem_range.2 hk)
def vN (t : Tp) : Bool := decide (0 ≤ t.n) && decide (t.n ≤ 500) && decide (0 < t.ops.length)
def zh (t : Tp) : Int := if 500 < t.ops.length then 4 else if vN t && ji t t.ops.length then 0 else 8
theorem qw {t : Tp} : zh t = 0 ↔ t.ops.length ≤ 500 ∧ 0 ≤ t.n ∧ t.n ≤ 500 ∧ 0 < t.ops.length ∧ ji t t.ops.length = true := by
 unfold zh
 by_cases h : 500 < t.ops.length
 ·rw [if_pos h]
  constructor
  ·intro g; cases g
  ·intro g; omega
 ·rw [if_neg h]
  cases hb : (vN t && ji t t.ops.length) with
  | true =>
   simp only [if_true]
   unfold vN at hb
   simp only [Bool.and_eq_true, decide_eq_true_eq] at hb
   exact ⟨fun _ => ⟨by omega, hb.1.1.1, hb.1.1.2, hb.1.2, hb.2⟩, fun _ => trivial⟩
  | false =>
   constructor
   ·intro g; simp at g
   ·rintro ⟨_, g1, g2, g3, g4⟩
    unfold vN at hb
    rw [g4] at hb
    simp [g1, g2, g3] at hb
def arR (k : Int) (a b : List UInt8) : List UInt8 × Int := if k = 3 then addR a b else if k = 4 then subR a b else if k = 5 then mulR a b else divR a b
def zB (inp out : List (List UInt8)) (o : TOp) : List UInt8 × Int :=
 if o.kind = 1 then (inp.getD o.a.toNat [], 0) else if o.kind = 2 then (o.rat, 0) else arR o.kind (out.getD o.a.toNat []) (out.getD o.b.toNat [])
def runF (inp : List (List UInt8)) : List TOp → List (List UInt8) → List (List UInt8) × Int
 | [], out => (out, 0)
 | o :: l, out => if (zB inp out o).2 ≠ 0 then ([], (zB inp out o).2) else runF inp l (out ++ [(zB inp out o).1])
theorem Qz {inp : List (List UInt8)} {ops : List TOp} {k : Nat} (hk : k < ops.length) (out : List (List UInt8)) : runF inp (ops.drop k) out = if (zB inp out (ops.getD k TOp.nil)).2 ≠ 0 then ([], (zB inp out (ops.getD k TOp.nil)).2) else runF inp (ops.drop (k + 1)) (out ++ [(zB inp out (ops.getD k TOp.nil)).1]) := by
 rw [List.drop_eq_getElem_cons hk]
 have e : ops.getD k TOp.nil = ops[k] := by simp [List.getD, hk]
 rw [e]; rfl
theorem WI {inp : List (List UInt8)} {ops : List TOp} (out : List (List UInt8)) : runF inp (ops.drop ops.length) out = (out, 0) := by
 rw [List.drop_length]; rfl
def vP : List (List UInt8) → Int
 | [] => 0
 | x :: l => if errR x ≠ 0 then errR x else vP l
theorem Zy {l : List (List UInt8)} {k : Nat} (hk : k < l.length) : vP (l.drop k) = if errR (l.getD k []) ≠ 0 then errR (l.getD k []) else vP (l.drop (k + 1)) := by
 rw [List.drop_eq_getElem_cons hk]
 have e : l.getD k [] = l[k] := by simp [List.getD, hk]
 rw [e]; rfl
theorem JH : ∀ {l : List (List UInt8)}, vP l = 0 ↔ ∀ x ∈ l, errR x = 0
 | [] => by simp [vP]
 | x :: l => by
  unfold vP
  by_cases h : errR x = 0
  ·rw [if_neg (fun g => g h), JH]
   simp [h]
  ·rw [if_pos h]
   simp [h]
def preT (t : Tp) (inp : List (List UInt8)) : Int := if zh t ≠ 0 then zh t else if (inp.length : Int) ≠ t.n then 2 else vP inp
def trun (t : Tp) (inp : List (List UInt8)) : List (List UInt8) × Int := if preT t inp ≠ 0 then ([], preT t inp) else runF inp t.ops []
def qQ (r : List (List UInt8) × Int) : List UInt8 × Int := if r.2 ≠ 0 then ([], r.2) else (r.1.getD (r.1.length - 1) [], 0)
def zx (t : Tp) (inp : List (List UInt8)) : List UInt8 × Int := qQ (trun t inp)
def dgF (l : List Int) : Nat → Int := fun j => l.getD j 0
def rtF (l : List (List UInt8)) : Nat → List UInt8 := fun j => l.getD j []
end Go.Nov
end

/- Expressions: their values. -/
section
namespace Go.Nov
open Go.Sx
structure Ev where
 v : List UInt8
 e : Int
 b : Bool
 g : Int
abbrev Ev.nil : Ev := ⟨[], 0, false, 0⟩
def zfy (k : Int) (a b : List UInt8) : List UInt8 × Int :=
 if k = 7 then (if (cmpR a b).2 ≠ 0 then ([], (cmpR a b).2) else (if (cmpR a b).1 < 0 then b else a, 0))
 else (if (cmpR b a).2 ≠ 0 then ([], (cmpR b a).2) else (if (cmpR b a).1 < 0 then b else a, 0))
def opR (k : Int) (a b : List UInt8) : List UInt8 × Int := if k = 4 then addR a b else if k = 5 then subR a b else if k = 6 then mulR a b else zfy k a b
def fixR (f : List Fx) (a : List UInt8) (d : Int) : List UInt8 × Int := if (zdh f a d).2 = true then ((zdh f a d).1, 0) else ([], 30)
def zdk {α : Type} (z : α) (l0 l1 : Ev) (f : List UInt8 → List UInt8 → α × Int) : α × Int := if l0.e ≠ 0 then (z, l0.e) else if l1.e ≠ 0 then (z, l1.e) else f l0.v l1.v
def valN (f : List Fx) (day k : Int) (r n : List UInt8) (d : Int) (l : List Ev) : List UInt8 × Int :=
 if k = 1 then (r, 0) else if k = 2 then fixR f n d else if k = 3 then fixR f n day
 else if k = 9 then (if (l.getD 0 Ev.nil).g ≠ 0 then ([], (l.getD 0 Ev.nil).g) else if (l.getD 0 Ev.nil).b then ((l.getD 1 Ev.nil).v, (l.getD 1 Ev.nil).e) else ((l.getD 2 Ev.nil).v, (l.getD 2 Ev.nil).e))
 else zdk [] (l.getD 0 Ev.nil) (l.getD 1 Ev.nil) (opR k)
def zg2 (k : Int) (a b : List UInt8) : Bool × Int := if (cmpR a b).2 ≠ 0 then (false, (cmpR a b).2) else (if k = 11 then decide ((cmpR a b).1 < 0) else decide ((cmpR a b).1 = 0), 0)
def hldN (k : Int) (l : List Ev) : Bool × Int :=
 if 13 ≤ k then (if (l.getD 0 Ev.nil).g ≠ 0 then (false, (l.getD 0 Ev.nil).g) else if k = 15 then (!(l.getD 0 Ev.nil).b, 0)
  else if (l.getD 0 Ev.nil).b = decide (k = 14) then ((l.getD 0 Ev.nil).b, 0) else ((l.getD 1 Ev.nil).b, (l.getD 1 Ev.nil).g))
 else zdk false (l.getD 0 Ev.nil) (l.getD 1 Ev.nil) (zg2 k)
def evN (f : List Fx) (day k : Int) (r n : List UInt8) (d : Int) (l : List Ev) : Ev := ⟨(valN f day k r n d l).1, (valN f day k r n d l).2, (hldN k l).1, (hldN k l).2⟩
namespace Ex
mutual
def ev (f : List Fx) (day : Int) : Ex → Ev
 | mk k r n d s => evN f day k r n d (evs f day s)
def evs (f : List Fx) (day : Int) : List Ex → List Ev
 | [] => []
 | x :: l => ev f day x :: evs f day l
end
end Ex
theorem zR {a : List UInt8} (h : errR a = 0) : a.length ≤ 2003 := by
 have h1 := (xh h).2.2.1
 rw [← h1]
 unfold qstr wz
 have g1 := jP (decide ((qv a).num < 0)) (qv a).num.natAbs
 have g2 := jP (decide (((qv a).den : Int) < 0)) ((qv a).den : Int).natAbs
 split
 ·omega
 ·simp only [List.length_append, List.length_cons, List.length_nil]
  omega
end Go.Nov
end

/- Rationals as the reference computes them. -/
section
namespace Go.Nov
theorem Wg {b c : Bool} {x : Nat} (h : x ≠ 0 → b = c) : wr b x = wr c x := by
 by_cases h0 : x = 0
 ·subst h0; rfl
 ·rw [h h0]
def negS (a : List UInt8) : List UInt8 := if a = [48] then a else if a.getD 0 0 = 45 then a.drop 1 else [45] ++ a
theorem W9 (z : Int) : z = 0 ∧ (wz z).1 = [48] ∨ z ≠ 0 ∧ room z.natAbs ∧ (wz z).1 = sgn (decide (z < 0)) (txt z.natAbs) ∨ ¬ room z.natAbs := by
 by_cases h0 : z = 0
 ·left; subst h0; exact ⟨rfl, rfl⟩
 ·right
  by_cases hr : room z.natAbs
  ·left
   refine ⟨h0, hr, ?_⟩
   unfold wz wr
   have hr' : (dec z.natAbs).length ≤ 1000 := hr
   rw [if_neg (by omega), if_neg (by omega)]
  ·exact .inr hr
theorem WJ (b : List UInt8) : sgn true b = 45 :: b := rfl
theorem QV (b : List UInt8) : sgn false b = b := rfl
theorem Ud {r : Rat} (h : vg r) : negS (qstr r) = qstr (-r) := by
 have hn : (-r).num = -r.num := rfl
 have hd : (-r).den = r.den := rfl
 have tail : ∀ t : List UInt8, (r.den = 1 → t = []) → (r.den ≠ 1 → t = [47] ++ (wz (r.den : Int)).1) → qstr r = (wz r.num).1 ++ t ∧ qstr (-r) = (wz (-r.num)).1 ++ t := by
  intro t h1 h2
  unfold qstr
  rw [hn, hd]
  by_cases hd1 : r.den = 1
  ·rw [if_pos hd1, if_pos hd1, h1 hd1]; simp
  ·rw [if_neg hd1, if_neg hd1, h2 hd1]; simp
 obtain ⟨t, ht1, ht2⟩ : ∃ t : List UInt8, (r.den = 1 → t = []) ∧ (r.den ≠ 1 → t = [47] ++ (wz (r.den : Int)).1) := by
  by_cases hd1 : r.den = 1
  ·exact ⟨[], fun _ => rfl, fun h => absurd hd1 h⟩
  ·exact ⟨_, fun h => absurd h hd1, fun _ => rfl⟩
 obtain ⟨e1, e2⟩ := tail t ht1 ht2
 rw [e1, e2]
 rcases W9 r.num with ⟨z0, zs⟩ | ⟨z0, zr, zs⟩ | zr
 ·have hr0 : r = 0 := Rat.num_eq_zero.1 z0
  have ht : t = [] := ht1 (by rw [hr0]; rfl)
  rw [z0, ht]
  rfl
 ·rcases W9 (-r.num) with ⟨z0', _⟩ | ⟨_, _, zs'⟩ | zr'
  ·omega
  ·rw [zs, zs', Int.natAbs_neg]
   have hx : r.num.natAbs ≠ 0 := by omega
   obtain ⟨f1, f2⟩ := yU hx
   have fne := VW hx
   by_cases hlt : r.num < 0
   ·rw [decide_eq_true hlt, decide_eq_false (by omega), WJ, QV]
    unfold negS
    rw [if_neg (by simp), if_pos (by simp)]
    rfl
   ·rw [decide_eq_false hlt, decide_eq_true (by omega), WJ, QV]
    generalize txt r.num.natAbs = b at *
    cases b with
    | nil => exact absurd rfl fne
    | cons c b =>
     simp only [List.getD_cons_zero] at f1 f2
     unfold negS
     rw [if_neg (by simp [f1]), if_neg (by simpa using f2)]
     rfl
  ·rw [Int.natAbs_neg] at zr'; exact absurd zr zr'
 ·exact absurd h.1 zr
theorem U4 {r : Rat} (h : vg r) : vg (-r) := by
 refine ⟨?_, h.2⟩
 show room (-r.num).natAbs
 rw [Int.natAbs_neg]; exact h.1
theorem Yg {a : List UInt8} (h : errR a = 0) : errR (negS a) = 0 ∧ qv (negS a) = -qv a ∧ numR (negS a) = (wz (-zI (numR a))).1 ∧ denR (negS a) = denR a := by
 obtain ⟨h1, h2, h3, h4⟩ := xh h
 have e : negS a = qstr (-qv a) := by rw [← Ud h4, h3]
 have hr := U4 h4
 obtain ⟨p1, p2, _⟩ := xH hr
 rw [e]
 refine ⟨vQ hr, yH hr, ?_, ?_⟩
 ·rw [p1]
  show (wz (-(qv a).num)).1 = _
  rw [h1]
 ·rw [p2]
  show (wz ((qv a).den : Int)).1 = _
  rw [h2, vz (q7 h).2.1]
theorem j2 (z : Int) : (wz (-z)).2 = (wz z).2 := by
 unfold wz wr
 rw [Int.natAbs_neg]
 split
 ·rfl
 ·split <;> rfl
theorem sub_neg {a b : List UInt8} (ha : errR a = 0) (hb : errR b = 0) : addR a (negS b) = subR a b := by
 obtain ⟨n1, n2, n3, n4⟩ := Yg hb
 obtain ⟨a1, a2, b1, b2, a4, b4, h2⟩ := u9 ha hb
 obtain ⟨_, _, b1', b2', _, b4', h2'⟩ := u9 ha n1
 have hz : zI (numR (negS b)) = -zI (numR b) := by
  rw [n3]
  refine jt ?_
  rw [j2, vz b1]
 have m1 : mulI (numR a) (denR (negS b)) = mulI (numR a) (denR b) := by rw [n4]
 have m2 := wc (zk.2 ⟨b1', a2⟩)
 have m2' := wc (zk.2 ⟨b1, a2⟩)
 rw [hz, Int.neg_mul] at m2
 have hc : zM a (negS b) = zM a b := by
  unfold zM
  rw [h2, h2', m1, m2, m2', j2]
 unfold addR subR
 rw [hc]
 split
 ·rfl
 ·rename_i hne
  rw [Classical.not_not] at hne
  rcases Wa ha hb with h | ⟨_, k1, k2, k3, k4⟩
  ·rw [h] at hne; cases hne
  ·rw [m1, n4]
   congr 1
   rw [m2, m2'] at *
   rw [k1] at k3 ⊢
   have e1 := wu k3
   have e2 := wu k4
   have k5 : (wz (-(zI (numR b) * zI (denR a)))).2 = 0 := by rw [j2]; exact k4
   have e3 := wu k5
   rw [zbb (zk.2 ⟨e1, e3⟩), Kt (zk.2 ⟨e1, e2⟩), jt k3, jt k4, jt k5, Int.sub_eq_add_neg]
end Go.Nov
end

/- Tapes: the numbers of a run are canonical; differences. -/
section
namespace Go.Nov
open Go.Sx
def allQ (l : List (List UInt8)) : Prop := ∀ x ∈ l, errR x = 0
theorem qS {l : List (List UInt8)} (h : allQ l) {i : Nat} (hi : i < l.length) : errR (l.getD i []) = 0 := h _ (by simp [List.getD, hi])
theorem um {l : List (List UInt8)} (h : allQ l) {x : List UInt8} (hx : errR x = 0) : allQ (l ++ [x]) := by
 intro y hy
 rcases List.mem_append.1 hy with g | g
 ·exact h y g
 ·rw [List.mem_singleton.1 g]; exact hx
theorem Kz {k : Int} {a b : List UInt8} (ha : errR a = 0) (hb : errR b = 0) (h : (arR k a b).2 = 0) : errR (arR k a b).1 = 0 := by
 unfold arR at h ⊢
 split
 ·rename_i g; rw [if_pos g] at h; exact (xp ha hb h).1
 ·rename_i g
  rw [if_neg g] at h
  split
  ·rename_i g; rw [if_pos g] at h; exact (kj ha hb h).1
  ·rename_i g
   rw [if_neg g] at h
   split
   ·rename_i g; rw [if_pos g] at h; exact (X6 ha hb h).1
   ·rename_i g
    rw [if_neg g] at h
    exact (Wb ha hb h).2.1
theorem XY {k : Int} {a b : List UInt8} (ha : errR a = 0) (hb : errR b = 0) (h : (arR k a b).2 ≠ 0) : (arR k a b).1 = [] := by
 unfold arR at h ⊢
 have h1 := Wj ha hb
 have h2 := JI ha hb
 have h3 := Ug ha hb
 have h4 := KL ha hb
 repeat' split
 ·rcases h1 with g | g
  ·rw [g]
  ·rename_i q; rw [if_pos q, g.1] at h; exact absurd rfl h
 ·rename_i q1 q2
  rw [if_neg q1, if_pos q2] at h
  rcases h2 with g | g
  ·rw [g]
  ·rw [g.1] at h; exact absurd rfl h
 ·rename_i q1 q2 q3
  rw [if_neg q1, if_neg q2, if_pos q3] at h
  rcases h3 with g | g
  ·rw [g]
  ·rw [g.1] at h; exact absurd rfl h
 ·rename_i q1 q2 q3
  rw [if_neg q1, if_neg q2, if_neg q3] at h
  rcases h4 with g | ⟨_, g | g⟩
  ·rw [g.2]
  ·rw [g]
  ·rw [g.1] at h; exact absurd rfl h
theorem jT {n : Int} {i : Nat} {o : TOp} (h : okOp n i o = true) : (o.kind = 1 ∧ 0 ≤ o.a ∧ o.a < n ∧ o.b = 0 ∧ o.rat = []) ∨ (o.kind = 2 ∧ errR o.rat = 0 ∧ o.a = 0 ∧ o.b = 0) ∨ ((o.kind = 3 ∨ o.kind = 4 ∨ o.kind = 5 ∨ o.kind = 6) ∧ 0 ≤ o.a ∧ o.a < i ∧ 0 ≤ o.b ∧ o.b < i ∧ o.rat = []) := by
 unfold okOp at h
 split at h
 ·rename_i g
  simp only [Bool.and_eq_true, decide_eq_true_eq] at h
  exact .inl ⟨g, h.1.1.1, h.1.1.2, h.1.2, h.2⟩
 ·split at h
  ·rename_i g
   simp only [Bool.and_eq_true, decide_eq_true_eq] at h
   exact .inr (.inl ⟨g, h.1.1, h.1.2, h.2⟩)
  ·split at h
   ·rename_i g
    simp only [Bool.and_eq_true, decide_eq_true_eq] at h
    exact .inr (.inr ⟨by omega, h.1.1.1, h.1.1.2, h.1.2.1, h.1.2.2, h.2⟩)
   ·cases h
theorem uX {n : Int} {inp out : List (List UInt8)} {o : TOp} (hi : allQ inp) (hn : (inp.length : Int) = n) (ho : allQ out) (h : okOp n out.length o = true) (h2 : (zB inp out o).2 = 0) : errR (zB inp out o).1 = 0 := by
 unfold zB at h2 ⊢
 rcases jT h with ⟨g, g1, g2, _⟩ | ⟨g, g1, _⟩ | ⟨g, g1, g2, g3, g4, _⟩
 ·rw [if_pos g]
  exact qS hi (by omega)
 ·rw [if_neg (by omega), if_pos g]
  exact g1
 ·rw [if_neg (by omega), if_neg (by omega)] at h2 ⊢
  exact Kz (qS ho (by omega)) (qS ho (by omega)) h2
theorem xZ {l : List (List UInt8)} (h : allQ l) {x : List UInt8} (hx : errR x = 0) (i : Nat) : allQ (l.set i x) := by
 intro y hy
 rcases List.mem_or_eq_of_mem_set hy with g | g
 ·exact h y g
 ·rw [g]; exact hx
def shL (h : List UInt8) : List Int → List (List UInt8) → List (List UInt8) × Int
 | [], x => (x, 0)
 | i :: l, x => if (addR (x.getD i.toNat []) h).2 ≠ 0 then ([], (addR (x.getD i.toNat []) h).2) else shL h l (x.set i.toNat (addR (x.getD i.toNat []) h).1)
def atT (t : Tp) (inp : List (List UInt8)) (h : List UInt8) (at_ : List Int) : List UInt8 × Int := if (shL h at_ inp).2 ≠ 0 then ([], (shL h at_ inp).2) else qQ (runF (shL h at_ inp).1 t.ops [])
def qA (t : Tp) (at_ : List Int) : Bool := at_.all fun i => decide (0 ≤ i) && decide (i < t.n)
def begT (t : Tp) (inp : List (List UInt8)) (at_ : List Int) (h : List UInt8) : Int := if (zx t inp).2 ≠ 0 then (zx t inp).2 else if qA t at_ then (if errR h ≠ 0 then errR h else if h = [48] then 16 else 0) else 2
def endR (q : List UInt8 × Int) : List UInt8 × Int := if q.2 ≠ 0 then ([], q.2) else (q.1, 0)
def stpA (e : Int) (r : List UInt8 × Int) : List UInt8 × Int := if e ≠ 0 then ([], e) else r
def xC (t : Tp) (inp : List (List UInt8)) (i : Int) (h : List UInt8) : List UInt8 × Int := stp (atT t inp h [i]).2 subR (atT t inp h [i]).1 (zx t inp).1
def zP (t : Tp) (inp : List (List UInt8)) (i : Int) (h : List UInt8) : List UInt8 × Int := if begT t inp [i] h ≠ 0 then ([], begT t inp [i] h) else endR (stp (xC t inp i h).2 divR (xC t inp i h).1 h)
def cenW (t : Tp) (inp : List (List UInt8)) (i : Int) (h : List UInt8) : List UInt8 × Int := stpA (atT t inp h [i]).2 (atT t inp (negS h) [i])
def cenD (t : Tp) (inp : List (List UInt8)) (i : Int) (h : List UInt8) : List UInt8 × Int := stp (cenW t inp i h).2 subR (atT t inp h [i]).1 (cenW t inp i h).1
def cenH (t : Tp) (inp : List (List UInt8)) (i : Int) (h : List UInt8) : List UInt8 × Int := stp (cenD t inp i h).2 addR h h
def cenT (t : Tp) (inp : List (List UInt8)) (i : Int) (h : List UInt8) : List UInt8 × Int := if begT t inp [i] h ≠ 0 then ([], begT t inp [i] h) else endR (stp (cenH t inp i h).2 divR (cenD t inp i h).1 (cenH t inp i h).1)
def croA (t : Tp) (inp : List (List UInt8)) (i k : Int) (h : List UInt8) : List UInt8 × Int := stpA (atT t inp h [i, k]).2 (atT t inp h [i])
def croB (t : Tp) (inp : List (List UInt8)) (i k : Int) (h : List UInt8) : List UInt8 × Int := stpA (croA t inp i k h).2 (atT t inp h [k])
def croC (t : Tp) (inp : List (List UInt8)) (i k : Int) (h : List UInt8) : List UInt8 × Int := stp (croB t inp i k h).2 subR (atT t inp h [i, k]).1 (croA t inp i k h).1
def croD (t : Tp) (inp : List (List UInt8)) (i k : Int) (h : List UInt8) : List UInt8 × Int := stp (croC t inp i k h).2 subR (croC t inp i k h).1 (croB t inp i k h).1
def croE (t : Tp) (inp : List (List UInt8)) (i k : Int) (h : List UInt8) : List UInt8 × Int := stp (croD t inp i k h).2 addR (croD t inp i k h).1 (zx t inp).1
def croF (t : Tp) (inp : List (List UInt8)) (i k : Int) (h : List UInt8) : List UInt8 × Int := stp (croE t inp i k h).2 mulR h h
def croT (t : Tp) (inp : List (List UInt8)) (i k : Int) (h : List UInt8) : List UInt8 × Int := if begT t inp [i, k] h ≠ 0 then ([], begT t inp [i, k] h) else endR (stp (croF t inp i k h).2 divR (croE t inp i k h).1 (croF t inp i k h).1)
end Go.Nov
end

/- Tapes over the rationals: runs, and polynomials of a shift. -/
section
namespace Go.Nov
open Go.Sx
def arQ (k : Int) (a b : Rat) : Rat := if k = 3 then a + b else if k = 4 then a - b else if k = 5 then a * b else a / b
def UM (inp out : List Rat) (o : TOp) : Rat :=
 if o.kind = 1 then inp.getD o.a.toNat 0 else if o.kind = 2 then qv o.rat else arQ o.kind (out.getD o.a.toNat 0) (out.getD o.b.toNat 0)
def runQ (inp : List Rat) : List TOp → List Rat → List Rat
 | [], out => out
 | o :: l, out => runQ inp l (out ++ [UM inp out o])
theorem X9 {k : Int} {a b : List UInt8} (ha : errR a = 0) (hb : errR b = 0) (h : (arR k a b).2 = 0) : qv (arR k a b).1 = arQ k (qv a) (qv b) := by
 unfold arR at h ⊢
 unfold arQ
 split
 ·rename_i g; rw [if_pos g] at h; exact (xp ha hb h).2
 ·rename_i g
  rw [if_neg g] at h
  split
  ·rename_i g; rw [if_pos g] at h; exact (kj ha hb h).2
  ·rename_i g
   rw [if_neg g] at h
   split
   ·rename_i g; rw [if_pos g] at h; exact (X6 ha hb h).2
   ·rename_i g
    rw [if_neg g] at h
    exact (Wb ha hb h).2.2
theorem xe (l : List (List UInt8)) {i : Nat} (hi : i < l.length) : (l.map qv).getD i 0 = qv (l.getD i []) := by
 simp [List.getD, hi]
theorem zcq {n : Int} {inp out : List (List UInt8)} {o : TOp} (hi : allQ inp) (hn : (inp.length : Int) = n) (ho : allQ out) (h : okOp n out.length o = true) (h2 : (zB inp out o).2 = 0) : qv (zB inp out o).1 = UM (inp.map qv) (out.map qv) o := by
 unfold zB at h2 ⊢
 unfold UM
 rcases jT h with ⟨g, g1, g2, _⟩ | ⟨g, g1, _⟩ | ⟨g, g1, g2, g3, g4, _⟩
 ·rw [if_pos g, if_pos g, xe inp (by omega)]
 ·rw [if_neg (by omega), if_pos g, if_neg (by omega), if_pos g]
 ·rw [if_neg (by omega), if_neg (by omega)] at h2 ⊢
  rw [if_neg (by omega), if_neg (by omega), xe out (by omega), xe out (by omega)]
  exact X9 (qS ho (by omega)) (qS ho (by omega)) h2
def vn (n : Int) : Nat → List TOp → Prop
 | _, [] => True
 | k, o :: l => okOp n k o = true ∧ vn n (k + 1) l
theorem jk {t : Tp} (h : ji t t.ops.length = true) : ∀ (l : List TOp) (k : Nat), t.ops.drop k = l → vn t.n k l
 | [], _, _ => trivial
 | o :: l, k, e => by
  have hk : k < t.ops.length := by
   rcases Nat.lt_or_ge k t.ops.length with g | g
   ·exact g
   ·rw [List.drop_eq_nil_of_le g] at e; cases e
  rw [List.drop_eq_getElem_cons hk] at e
  simp only [List.cons.injEq] at e
  refine ⟨?_, jk h l (k + 1) e.2⟩
  have := Z7 h hk
  rw [show t.ops.getD k TOp.nil = t.ops[k] by simp [List.getD, hk], e.1] at this
  exact this
theorem xJ {n : Int} {inp : List (List UInt8)} (hi : allQ inp) (hn : (inp.length : Int) = n) : ∀ (l : List TOp) (out r : List (List UInt8)), allQ out → vn n out.length l → runF inp l out = (r, 0) → allQ r ∧ r.map qv = runQ (inp.map qv) l (out.map qv) ∧ r.length = out.length + l.length
 | [], out, r, ho, _, e => by
  simp only [runF, Prod.mk.injEq, and_true] at e
  subst e
  exact ⟨ho, rfl, rfl⟩
 | o :: l, out, r, ho, hk, e => by
  rw [runF] at e
  by_cases g : (zB inp out o).2 = 0
  ·rw [if_neg (fun q => q g)] at e
   have h1 := uX hi hn ho hk.1 g
   have h2 := zcq hi hn ho hk.1 g
   obtain ⟨a1, a2, a3⟩ := xJ hi hn l (out ++ [(zB inp out o).1]) r (um ho h1) (by simpa using hk.2) e
   refine ⟨a1, ?_, ?_⟩
   ·rw [a2, List.map_append, List.map_singleton, h2]; rfl
   ·rw [a3]; simp; omega
  ·rw [if_pos g] at e
   simp only [Prod.mk.injEq] at e
   exact absurd e.2 g
def VQ (t : Tp) (X : List Rat) : Rat := (runQ X t.ops []).getD (t.ops.length - 1) 0
end Go.Nov
end

/- Differences of tapes: what they are over the rationals; the laws. -/
section
namespace Go.Nov
open Go.Sx
theorem Jp {t : Tp} {inp : List (List UInt8)} : preT t inp = 0 ↔ zh t = 0 ∧ (inp.length : Int) = t.n ∧ allQ inp := by
 unfold preT
 by_cases h : zh t = 0
 ·rw [if_neg (fun g => g h)]
  by_cases h1 : (inp.length : Int) = t.n
  ·rw [if_neg (fun g => g h1), JH]
   exact ⟨fun g => ⟨h, h1, g⟩, fun g => g.2.2⟩
  ·rw [if_pos h1]
   constructor
   ·intro g; cases g
   ·intro g; exact absurd g.2.1 h1
 ·rw [if_pos h]
  exact ⟨fun g => absurd g h, fun g => absurd g.1 h⟩
theorem yn {t : Tp} {x : List (List UInt8)} (hc : zh t = 0) (hn : (x.length : Int) = t.n) (hx : allQ x) (h : (qQ (runF x t.ops [])).2 = 0) : errR (qQ (runF x t.ops [])).1 = 0 ∧ qv (qQ (runF x t.ops [])).1 = VQ t (x.map qv) := by
 obtain ⟨c1, c2, c3, c4, c5⟩ := qw.1 hc
 unfold qQ at h ⊢
 by_cases g : (runF x t.ops []).2 = 0
 ·rw [if_neg (fun q => q g)]
  have e : runF x t.ops [] = ((runF x t.ops []).1, 0) := by rw [← g]
  obtain ⟨a1, a2, a3⟩ := xJ (n := t.n) hx hn t.ops [] _ (fun y hy => absurd hy (by simp)) (jk c5 t.ops 0 (List.drop_zero)) e
  simp only [List.length_nil, Nat.zero_add] at a3
  have hl : (runF x t.ops []).1.length - 1 < (runF x t.ops []).1.length := by omega
  refine ⟨qS a1 hl, ?_⟩
  unfold VQ
  rw [← xe _ hl, a2, a3]
  rfl
 ·rw [if_pos g] at h; exact absurd h g
theorem kn {t : Tp} {inp : List (List UInt8)} (h : (zx t inp).2 = 0) : zh t = 0 ∧ (inp.length : Int) = t.n ∧ allQ inp ∧ errR (zx t inp).1 = 0 ∧ qv (zx t inp).1 = VQ t (inp.map qv) := by
 unfold zx trun at h ⊢
 by_cases g : preT t inp = 0
 ·rw [if_neg (fun q => q g)] at h ⊢
  obtain ⟨p1, p2, p3⟩ := Jp.1 g
  obtain ⟨a, b⟩ := yn p1 p2 p3 h
  exact ⟨p1, p2, p3, a, b⟩
 ·rw [if_pos g] at h
  unfold qQ at h
  rw [if_pos g] at h
  exact absurd h g
theorem Jv {t : Tp} {inp : List (List UInt8)} (p1 : zh t = 0) (p2 : (inp.length : Int) = t.n) (p3 : allQ inp) : zx t inp = qQ (runF inp t.ops []) := by
 unfold zx trun
 rw [if_neg (fun q => q (Jp.2 ⟨p1, p2, p3⟩))]
def addX (h : Rat) : List Int → List Rat → List Rat
 | [], X => X
 | i :: l, X => addX h l (X.set i.toNat (X.getD i.toNat 0 + h))
theorem Xr {h : List UInt8} (hh : errR h = 0) {n : Int} : ∀ (l : List Int) (x : List (List UInt8)), allQ x → (x.length : Int) = n → (∀ i ∈ l, 0 ≤ i ∧ i < n) → (shL h l x).2 = 0 → allQ (shL h l x).1 ∧ ((shL h l x).1.length : Int) = n ∧ (shL h l x).1.map qv = addX (qv h) l (x.map qv)
 | [], x, hx, hn, _, _ => ⟨hx, hn, rfl⟩
 | i :: l, x, hx, hn, hl, h0 => by
  have hi := hl i (by simp)
  have hil : i.toNat < x.length := by omega
  rw [shL] at h0 ⊢
  by_cases g : (addR (x.getD i.toNat []) h).2 = 0
  ·rw [if_neg (fun q => q g)] at h0 ⊢
   obtain ⟨a, b⟩ := xp (qS hx hil) hh g
   obtain ⟨c1, c2, c3⟩ := Xr hh l _ (xZ hx a i.toNat) (by simpa using hn) (fun j hj => hl j (by simp [hj])) h0
   refine ⟨c1, c2, ?_⟩
   rw [c3, addX, List.map_set, b, xe x hil]
  ·rw [if_pos g] at h0; exact absurd h0 g
theorem uk {t : Tp} {inp : List (List UInt8)} {h : List UInt8} {l : List Int} (hh : errR h = 0) (p1 : zh t = 0) (p2 : (inp.length : Int) = t.n) (p3 : allQ inp) (hl : ∀ i ∈ l, 0 ≤ i ∧ i < t.n) (h0 : (atT t inp h l).2 = 0) :
  errR (atT t inp h l).1 = 0 ∧ qv (atT t inp h l).1 = VQ t (addX (qv h) l (inp.map qv)) := by
 unfold atT at h0 ⊢
 by_cases g : (shL h l inp).2 = 0
 ·rw [if_neg (fun q => q g)] at h0 ⊢
  obtain ⟨a, b, c⟩ := Xr hh l inp p3 p2 hl g
  obtain ⟨d, e⟩ := yn p1 b a h0
  exact ⟨d, by rw [e, c]⟩
 ·rw [if_pos g] at h0; exact absurd h0 g
theorem Jn : errR [48] = 0 ∧ qv [48] = 0 := by decide +kernel
theorem zey {a : List UInt8} (h : errR a = 0) (hq : qv a = 0) : a = [48] := KJ h Jn.1 (by rw [hq, Jn.2])
theorem zbv {t : Tp} {inp : List (List UInt8)} {l : List Int} {h : List UInt8} (h0 : begT t inp l h = 0) : (zx t inp).2 = 0 ∧ (∀ i ∈ l, 0 ≤ i ∧ i < t.n) ∧ errR h = 0 ∧ qv h ≠ 0 := by
 unfold begT at h0
 by_cases g : (zx t inp).2 = 0
 ·rw [if_neg (fun q => q g)] at h0
  by_cases g2 : qA t l = true
  ·rw [if_pos g2] at h0
   by_cases g3 : errR h = 0
   ·rw [if_neg (fun q => q g3)] at h0
    by_cases g4 : h = [48]
    ·rw [if_pos g4] at h0; cases h0
    ·refine ⟨g, fun i hi => ?_, g3, fun q => g4 (zey g3 q)⟩
     unfold qA at g2
     rw [List.all_eq_true] at g2
     simpa using g2 i hi
   ·rw [if_pos g3] at h0; exact absurd h0 g3
  ·rw [if_neg g2] at h0; cases h0
 ·rw [if_pos g] at h0; exact absurd h0 g
theorem ze1 {q : List UInt8 × Int} (h : (endR q).2 = 0) : q.2 = 0 ∧ (endR q).1 = q.1 := by
 unfold endR at h ⊢
 by_cases g : q.2 = 0
 ·rw [if_neg (fun k => k g)]; exact ⟨g, rfl⟩
 ·rw [if_pos g] at h; exact absurd h g
theorem X4 {e : Int} {f : List UInt8 → List UInt8 → List UInt8 × Int} {x y : List UInt8} (h : (stp e f x y).2 = 0) : e = 0 ∧ stp e f x y = f x y := by
 unfold stp at h ⊢
 by_cases g : e = 0
 ·rw [if_neg (fun k => k g)]; exact ⟨g, rfl⟩
 ·rw [if_pos g] at h; exact absurd h g
structure Dok (t : Tp) (inp : List (List UInt8)) (l : List Int) (h : List UInt8) : Prop where
 c : zh t = 0
 n : (inp.length : Int) = t.n
 q : allQ inp
 l : ∀ i ∈ l, 0 ≤ i ∧ i < t.n
 h0 : errR h = 0
 hq : qv h ≠ 0
theorem xF {t : Tp} {inp : List (List UInt8)} {l : List Int} {h : List UInt8} (h0 : begT t inp l h = 0) : Dok t inp l h ∧ errR (zx t inp).1 = 0 ∧ qv (zx t inp).1 = VQ t (inp.map qv) := by
 obtain ⟨a, b, c, d⟩ := zbv h0
 obtain ⟨p1, p2, p3, p4, p5⟩ := kn a
 exact ⟨⟨p1, p2, p3, b, c, d⟩, p4, p5⟩
theorem ZE {t : Tp} {inp : List (List UInt8)} {i : Int} {h : List UInt8} (h0 : (zP t inp i h).2 = 0) : Dok t inp [i] h ∧ errR (zP t inp i h).1 = 0 ∧ qv (zP t inp i h).1 = (VQ t (addX (qv h) [i] (inp.map qv)) - VQ t (inp.map qv)) / qv h := by
 unfold zP at h0 ⊢
 by_cases g : begT t inp [i] h = 0
 ·rw [if_neg (fun q => q g)] at h0 ⊢
  obtain ⟨D, v1, v2⟩ := xF g
  obtain ⟨e1, e2⟩ := ze1 h0
  rw [e2]
  obtain ⟨e3, e4⟩ := X4 e1
  rw [e4] at e1 ⊢
  unfold xC at e1 e3 ⊢
  obtain ⟨e5, e6⟩ := X4 e3
  rw [e6] at e1 e3 ⊢
  obtain ⟨a1, a2⟩ := uk D.h0 D.c D.n D.q D.l e5
  obtain ⟨b1, b2⟩ := kj a1 v1 e3
  obtain ⟨_, c1, c2⟩ := Wb b1 D.h0 e1
  exact ⟨D, c1, by rw [c2, b2, a2, v2]⟩
 ·rw [if_pos g] at h0; exact absurd h0 g
end Go.Nov
end

/- Tapes: differences and changes of the value; sums of tapes. -/
section
namespace Go.Nov
open Go.Sx
theorem zero_sub {h : List UInt8} (hh : errR h = 0) : subR [48] h = (negS h, 0) := by
 obtain ⟨n1, n2, _, _⟩ := Yg hh
 obtain ⟨z1, z2⟩ := Jn
 obtain ⟨a1, a2, b1, b2, a4, b4, h2⟩ := u9 z1 hh
 have p1 : numR [48] = [48] := by decide +kernel
 have p2 : denR [48] = [49] := by decide +kernel
 have p3 : zI [48] = 0 := by decide +kernel
 have p4 : zI [49] = 1 := by decide +kernel
 have p5 : (wz 0).2 = 0 := by decide +kernel
 have key : (subR [48] h).2 = 0 := by
  have m1 := wc (zk.2 ⟨a1, b2⟩)
  have m2 := wc (zk.2 ⟨b1, a2⟩)
  have m3 := wc (zk.2 ⟨a2, b2⟩)
  rw [p1, p3, Int.zero_mul] at m1
  rw [p2, p4, Int.mul_one] at m2
  rw [p2, p4, Int.one_mul] at m3
  have s2 := vz b1
  have s3 := vz b2
  have k1 : (mulI (numR [48]) (denR h)).2 = 0 := by rw [p1, m1]; exact p5
  have k2 : (mulI (numR h) (denR [48])).2 = 0 := by rw [p2, m2, s2]
  have k3 : (mulI (denR [48]) (denR h)).2 = 0 := by rw [p2, m3, s3]
  have hc : zM [48] h = 0 := by
   unfold zM
   rw [h2, if_neg (by simp), if_neg (by rw [k1, k2]; simp)]
  unfold subR
  rw [hc, if_neg (by simp)]
  have e1 : errI (mulI (numR [48]) (denR h)).1 = 0 := by rw [p1, m1]; exact wu p5
  have e2 : errI (mulI (numR h) (denR [48])).1 = 0 := by rw [p2, m2]; exact wu (by rw [s2])
  have su := Kt (zk.2 ⟨e1, e2⟩)
  have v1 : zI (mulI (numR [48]) (denR h)).1 = 0 := by rw [p1, m1]; exact jt p5
  have v2 : zI (mulI (numR h) (denR [48])).1 = zI (numR h) := by rw [p2, m2]; exact jt (by rw [s2])
  rw [v1, v2, Int.zero_sub] at su
  have k4 : (subI (mulI (numR [48]) (denR h)).1 (mulI (numR h) (denR [48])).1).2 = 0 := by rw [su, j2, s2]
  unfold frac
  rw [if_neg (by rw [k4, k3]; simp)]
  have f1 : errI (subI (mulI (numR [48]) (denR h)).1 (mulI (numR h) (denR [48])).1).1 = 0 := by rw [su]; exact wu (by rw [j2, s2])
  have f2 : errI (mulI (denR [48]) (denR h)).1 = 0 := by rw [p2, m3]; exact wu (by rw [s3])
  have f3 : zI (mulI (denR [48]) (denR h)).1 = zI (denR h) := by rw [p2, m3]; exact jt (by rw [s3])
  have := zbl f1 f2 (fun g => b4 (by rw [← f3]; have := qE (mulI (denR [48]) (denR h)).1; omega))
  rw [this.1]
 obtain ⟨c1, c2⟩ := kj z1 hh key
 have : (subR [48] h).1 = negS h := KJ c1 n1 (by rw [c2, n2, z2]; grind)
 rw [← this, ← key]
structure ShiftOk (t : Tp) (inp : List (List UInt8)) (i : Int) (h : List UInt8) : Prop where
 i0 : 0 ≤ i
 il : i.toNat < inp.length
 f0 : (addR (inp.getD i.toNat []) h).2 = 0
 hm : allQ (inp.set i.toNat (addR (inp.getD i.toNat []) h).1)
 g0 : (zx t inp).2 = 0
 j0 : (zx t (inp.set i.toNat (addR (inp.getD i.toNat []) h).1)).2 = 0
 k0 : (subR (zx t (inp.set i.toNat (addR (inp.getD i.toNat []) h).1)).1 (zx t inp).1).2 = 0
 l0 : (mulR (zP t inp i h).1 h).2 = 14 ∨ (mulR (zP t inp i h).1 h).2 = 0 ∧ (mulR (zP t inp i h).1 h).1 = (subR (zx t (inp.set i.toNat (addR (inp.getD i.toNat []) h).1)).1 (zx t inp).1).1
 m0 : (zP t (inp.set i.toNat (addR (inp.getD i.toNat []) h).1) i (negS h)).2 = 14 ∨ (zP t (inp.set i.toNat (addR (inp.getD i.toNat []) h).1) i (negS h)).2 = 0 ∧ (zP t (inp.set i.toNat (addR (inp.getD i.toNat []) h).1) i (negS h)).1 = (zP t inp i h).1
theorem at_one {t : Tp} {inp : List (List UInt8)} {h : List UInt8} {i : Int} (g : (addR (inp.getD i.toNat []) h).2 = 0) : atT t inp h [i] = qQ (runF (inp.set i.toNat (addR (inp.getD i.toNat []) h).1) t.ops []) := by
 unfold atT
 have e : shL h [i] inp = (inp.set i.toNat (addR (inp.getD i.toNat []) h).1, 0) := by
  rw [shL, if_neg (fun q => q g)]; rfl
 rw [e, if_neg (by simp)]
theorem zfi {t : Tp} {inp : List (List UInt8)} {h : List UInt8} {i : Int} (g : (addR (inp.getD i.toNat []) h).2 = 14) : atT t inp h [i] = ([], 14) := by
 unfold atT
 have e : shL h [i] inp = ([], 14) := by
  rw [shL, if_pos (by rw [g]; decide), g]
 rw [e, if_pos (by simp)]
theorem U5 {t : Tp} {inp : List (List UInt8)} {i : Int} {h : List UInt8} (D : Dok t inp [i] h) (hv : (zx t inp).2 = 0) (ha : (atT t inp h [i]).2 = 14 ∨ (atT t inp h [i]).2 = 0) : (zP t inp i h).2 = 14 ∨ (zP t inp i h).2 = 0 := by
 obtain ⟨_, _, _, v1, v2⟩ := kn hv
 have hb : begT t inp [i] h = 0 := by
  unfold begT
  rw [if_neg (fun q => q hv), if_pos, if_neg (fun q => q D.h0), if_neg]
  ·intro g; exact D.hq (by rw [g]; exact Jn.2)
  ·unfold qA
   rw [List.all_eq_true]
   intro j hj
   have := D.l j hj
   simp [this.1, this.2]
 unfold zP
 rw [if_neg (fun q => q hb)]
 have he : ∀ q : List UInt8 × Int, q.2 = 14 ∨ q.2 = 0 → (endR q).2 = 14 ∨ (endR q).2 = 0 := by
  intro q hq
  unfold endR
  split
  ·rename_i g; exact hq.elim .inl fun g2 => absurd g2 g
  ·exact .inr rfl
 refine he _ ?_
 rcases ha with g | g
 ·have eD : xC t inp i h = ([], 14) := by unfold xC stp; rw [if_pos (by rw [g]; decide), g]
  left
  unfold stp
  rw [eD]
  simp
 ·have eD : xC t inp i h = subR (atT t inp h [i]).1 (zx t inp).1 := by unfold xC stp; rw [if_neg (fun q => q g)]
  rw [eD]
  obtain ⟨a1, a2⟩ := uk D.h0 D.c D.n D.q D.l g
  rcases JI a1 v1 with g2 | ⟨g2, g3⟩
  ·left; unfold stp; rw [g2]; simp
  ·have s0 : (subR (atT t inp h [i]).1 (zx t inp).1).2 = 0 := by rw [g2]
   obtain ⟨s1, s2⟩ := kj a1 v1 s0
   unfold stp
   rw [if_neg (fun q => q s0)]
   rcases KL s1 D.h0 with ⟨g4, _⟩ | ⟨_, g4 | ⟨g4, _⟩⟩
   ·exact absurd g4 D.hq
   ·left; rw [g4]
   ·right; rw [g4]
end Go.Nov
end

/- Tapes: an operation of two tapes. -/
section
namespace Go.Nov
open Go.Sx
def shO (n : Int) (o : TOp) : TOp := if 3 ≤ o.kind then ⟨o.kind, o.a + n, o.b + n, o.rat⟩ else o
def vB (k : Int) (t u : Tp) : Tp := ⟨t.n, t.ops ++ u.ops.map (shO t.ops.length) ++ [⟨k, (t.ops.length : Int) - 1, (t.ops.length : Int) + u.ops.length - 1, []⟩]⟩
theorem ZA {inp : List (List UInt8)} : ∀ (l1 l2 : List TOp) (out : List (List UInt8)), runF inp (l1 ++ l2) out = if (runF inp l1 out).2 ≠ 0 then ([], (runF inp l1 out).2) else runF inp l2 (runF inp l1 out).1
 | [], l2, out => by simp [runF]
 | o :: l1, l2, out => by
  by_cases h : (zB inp out o).2 = 0
  ·have e1 : ∀ l : List TOp, runF inp (o :: l) out = runF inp l (out ++ [(zB inp out o).1]) := fun l => by rw [runF, if_neg (fun g => g h)]
   rw [List.cons_append, e1, e1, ZA l1 l2]
  ·have e1 : ∀ l : List TOp, runF inp (o :: l) out = ([], (zB inp out o).2) := fun l => by rw [runF, if_pos h]
   rw [List.cons_append, e1, e1, if_pos h]
theorem Xh {inp pre out : List (List UInt8)} {n : Int} {o : TOp} (h : okOp n out.length o = true) : zB inp (pre ++ out) (shO pre.length o) = zB inp out o := by
 unfold shO
 rcases jT h with ⟨g, _⟩ | ⟨g, _⟩ | ⟨g, g1, g2, g3, g4, _⟩
 ·rw [if_neg (by omega)]; unfold zB; rw [if_pos g, if_pos g]
 ·rw [if_neg (by omega)]; unfold zB; rw [if_neg (show ¬ o.kind = 1 by omega), if_pos g, if_neg (show ¬ o.kind = 1 by omega), if_pos g]
 ·rw [if_pos (by omega)]
  unfold zB
  simp only
  rw [if_neg (show ¬ o.kind = 1 by omega), if_neg (show ¬ o.kind = 2 by omega), if_neg (show ¬ o.kind = 1 by omega), if_neg (show ¬ o.kind = 2 by omega)]
  have e1 : (pre ++ out).getD (o.a + (pre.length : Int)).toNat [] = out.getD o.a.toNat [] := by
   have : (o.a + (pre.length : Int)).toNat = pre.length + o.a.toNat := by omega
   rw [this]; simp only [List.getD]; rw [List.getElem?_append_right (by omega)]; congr 2; omega
  have e2 : (pre ++ out).getD (o.b + (pre.length : Int)).toNat [] = out.getD o.b.toNat [] := by
   have : (o.b + (pre.length : Int)).toNat = pre.length + o.b.toNat := by omega
   rw [this]; simp only [List.getD]; rw [List.getElem?_append_right (by omega)]; congr 2; omega
  rw [e1, e2]
theorem X1 {inp pre : List (List UInt8)} {n : Int} : ∀ (l : List TOp) (out : List (List UInt8)), vn n out.length l → runF inp (l.map (shO pre.length)) (pre ++ out) = if (runF inp l out).2 ≠ 0 then ([], (runF inp l out).2) else (pre ++ (runF inp l out).1, 0)
 | [], out, _ => by simp [runF]
 | o :: l, out, h => by
  obtain ⟨h1, h2⟩ := h
  by_cases g : (zB inp out o).2 = 0
  ·have e1 : runF inp (o :: l) out = runF inp l (out ++ [(zB inp out o).1]) := by rw [runF, if_neg (fun q => q g)]
   have e2 : runF inp ((o :: l).map (shO pre.length)) (pre ++ out) = runF inp (l.map (shO pre.length)) (pre ++ out ++ [(zB inp out o).1]) := by rw [List.map_cons, runF, Xh h1, if_neg (fun q => q g)]
   rw [e1, e2, List.append_assoc, X1 l _ (by simpa using h2)]
  ·have e1 : runF inp (o :: l) out = ([], (zB inp out o).2) := by rw [runF, if_pos g]
   have e2 : runF inp ((o :: l).map (shO pre.length)) (pre ++ out) = ([], (zB inp out o).2) := by rw [List.map_cons, runF, Xh h1, if_pos g]
   rw [e1, e2, if_pos g]
theorem xW {n : Int} : ∀ (l1 l2 : List TOp) (k : Nat), vn n k l1 → vn n (k + l1.length) l2 → vn n k (l1 ++ l2)
 | [], l2, k, _, h => by simpa using h
 | o :: l1, l2, k, h1, h => by
  refine ⟨h1.1, xW l1 l2 (k + 1) h1.2 ?_⟩
  have : k + 1 + l1.length = k + (o :: l1).length := by simp; omega
  rw [this]; exact h
theorem zcd {n : Int} {k m : Nat} {o : TOp} (h : okOp n k o = true) : okOp n (m + k) (shO m o) = true := by
 unfold shO
 rcases jT h with ⟨g, g1, g2, g3, g4⟩ | ⟨g, g1, g2, g3⟩ | ⟨g, g1, g2, g3, g4, g5⟩
 ·rw [if_neg (by omega)]; unfold okOp; rw [if_pos g]; simp [g1, g2, g3, g4]
 ·rw [if_neg (by omega)]; unfold okOp; rw [if_neg (show ¬ o.kind = 1 by omega), if_pos g]; simp [g1, g2, g3]
 ·rw [if_pos (by omega)]; unfold okOp; simp only; rw [if_neg (show ¬ o.kind = 1 by omega), if_neg (show ¬ o.kind = 2 by omega), if_pos (show 3 ≤ o.kind ∧ o.kind ≤ 6 by omega)]
  simp only [g5, Bool.and_eq_true, decide_eq_true_eq]
  exact ⟨⟨⟨by omega, by omega⟩, by omega, by omega⟩, trivial⟩
theorem Jm {n : Int} {m : Nat} : ∀ (l : List TOp) (k : Nat), vn n k l → vn n (m + k) (l.map (shO m))
 | [], _, _ => trivial
 | o :: l, k, h => ⟨zcd h.1, Jm l (k + 1) h.2⟩
theorem QR {n : Int} : ∀ (l : List TOp) (k j : Nat), vn n k l → j < l.length → okOp n (k + j) (l.getD j TOp.nil) = true
 | [], _, _, _, h => by simp at h
 | o :: l, k, 0, h, _ => h.1
 | o :: l, k, j + 1, h, hj => by
  have := QR l (k + 1) j h.2 (by simpa using hj)
  rw [show k + 1 + j = k + (j + 1) by omega] at this
  exact this
theorem zay {t : Tp} (h : vn t.n 0 t.ops) : ji t t.ops.length = true := by
 unfold ji
 rw [List.all_eq_true]
 intro j hj
 have := QR t.ops 0 j h (List.mem_range.1 hj)
 rw [Nat.zero_add] at this
 exact this
theorem V3 {k : Int} {t u : Tp} (hk : k = 3 ∨ k = 4) (ht : zh t = 0) (hu : zh u = 0) (hn : t.n = u.n) (hl : t.ops.length + u.ops.length ≤ 400) : zh (vB k t u) = 0 := by
 obtain ⟨a1, a2, a3, a4, a5⟩ := qw.1 ht
 obtain ⟨b1, b2, b3, b4, b5⟩ := qw.1 hu
 refine qw.2 ⟨by simp [vB]; omega, a2, a3, by simp [vB]; omega, zay ?_⟩
 have f1 := jk a5 t.ops 0 List.drop_zero
 have f2 := jk b5 u.ops 0 List.drop_zero
 rw [← hn] at f2
 refine xW _ _ 0 (xW _ _ 0 f1 ?_) ⟨?_, trivial⟩
 ·have := Jm (m := t.ops.length) u.ops 0 f2
  rw [Nat.add_zero] at this
  rw [Nat.zero_add]
  exact this
 ·unfold okOp
  simp only [List.length_append, List.length_map, Nat.zero_add]
  rw [if_neg (show ¬ k = 1 by omega), if_neg (show ¬ k = 2 by omega), if_pos (show 3 ≤ k ∧ k ≤ 6 by omega)]
  simp only [Bool.and_eq_true, decide_eq_true_eq]
  exact ⟨⟨⟨by omega, by omega⟩, by omega, by omega⟩, trivial⟩
theorem Uj {r : List (List UInt8) × Int} (h : (qQ r).2 = 0) : r.2 = 0 ∧ (qQ r).1 = r.1.getD (r.1.length - 1) [] := by
 unfold qQ at h ⊢
 by_cases g : r.2 = 0
 ·rw [if_neg (fun q => q g)]; exact ⟨g, rfl⟩
 ·rw [if_pos g] at h; exact absurd h g
theorem Q1 {k : Int} {t u : Tp} {x : List (List UInt8)} (hk : k = 3 ∨ k = 4) (ht : zh t = 0) (hu : zh u = 0) (hn : t.n = u.n) (hx : allQ x) (hxl : (x.length : Int) = t.n) (h1 : (qQ (runF x t.ops [])).2 = 0) (h2 : (qQ (runF x u.ops [])).2 = 0) :
  qQ (runF x (vB k t u).ops []) = arR k (qQ (runF x t.ops [])).1 (qQ (runF x u.ops [])).1 := by
 obtain ⟨a1, a2, a3, a4, a5⟩ := qw.1 ht
 obtain ⟨b1, b2, b3, b4, b5⟩ := qw.1 hu
 obtain ⟨q1, _⟩ := yn ht hxl hx h1
 obtain ⟨q2, _⟩ := yn hu (by rw [← hn]; exact hxl) hx h2
 obtain ⟨e1, l1⟩ := Uj h1
 obtain ⟨e2, l2⟩ := Uj h2
 have f1 := jk a5 t.ops 0 List.drop_zero
 have f2 := jk b5 u.ops 0 List.drop_zero
 obtain ⟨p1, _, n1⟩ := xJ hx hxl t.ops [] _ (fun _ h => absurd h (by simp)) f1 (show runF x t.ops [] = ((runF x t.ops []).1, 0) by rw [← e1])
 obtain ⟨p2, _, n2⟩ := xJ hx (by rw [← hn]; exact hxl) u.ops [] _ (fun _ h => absurd h (by simp)) f2 (show runF x u.ops [] = ((runF x u.ops []).1, 0) by rw [← e2])
 simp only [List.length_nil, Nat.zero_add] at n1 n2
 rw [l1] at q1 ⊢
 rw [l2] at q2 ⊢
 have f3 := X1 (inp := x) (pre := (runF x t.ops []).1) u.ops [] f2
 rw [if_neg (fun q => q e2), List.append_nil] at f3
 rw [n1] at f3
 have er : runF x (vB k t u).ops [] = runF x [⟨k, (t.ops.length : Int) - 1, (t.ops.length : Int) + u.ops.length - 1, []⟩] ((runF x t.ops []).1 ++ (runF x u.ops []).1) := by
  unfold vB
  simp only
  have g : runF x (t.ops ++ u.ops.map (shO t.ops.length)) [] = ((runF x t.ops []).1 ++ (runF x u.ops []).1, 0) := by
   rw [ZA, if_neg (fun q => q e1), f3]
  rw [ZA, g, if_neg (by simp)]
 rw [er]
 generalize hr : (runF x t.ops []).1 = r at *
 generalize hs : (runF x u.ops []).1 = s at *
 rw [runF]
 have es : zB x (r ++ s) ⟨k, (t.ops.length : Int) - 1, (t.ops.length : Int) + u.ops.length - 1, []⟩ = arR k (r.getD (r.length - 1) []) (s.getD (s.length - 1) []) := by
  unfold zB
  simp only
  rw [if_neg (show ¬ k = 1 by omega), if_neg (show ¬ k = 2 by omega)]
  have c1 : ((t.ops.length : Int) - 1).toNat = r.length - 1 := by omega
  have c2 : ((t.ops.length : Int) + u.ops.length - 1).toNat = r.length + (s.length - 1) := by omega
  rw [c1, c2]
  congr 1
  ·simp only [List.getD]; rw [List.getElem?_append_left (by omega)]
  ·simp only [List.getD]; rw [List.getElem?_append_right (by omega)]; congr 2; omega
 rw [es]
 by_cases g : (arR k (r.getD (r.length - 1) []) (s.getD (s.length - 1) [])).2 = 0
 ·rw [if_neg (fun q => q g), runF]
  unfold qQ
  simp only
  rw [if_neg (by simp)]
  have : (r ++ s ++ [(arR k (r.getD (r.length - 1) []) (s.getD (s.length - 1) [])).1]).getD ((r ++ s ++ [(arR k (r.getD (r.length - 1) []) (s.getD (s.length - 1) [])).1]).length - 1) [] = (arR k (r.getD (r.length - 1) []) (s.getD (s.length - 1) [])).1 := by
   simp [List.getD]
  rw [this, ← g]
 ·rw [if_pos g]
  unfold qQ
  simp only
  rw [if_pos g]
  exact Prod.ext (XY q1 q2 g).symm rfl
theorem Vr {k : Int} {a b : List UInt8} (hk : k = 3 ∨ k = 4) (ha : errR a = 0) (hb : errR b = 0) : (arR k a b).2 = 14 ∨ (arR k a b).2 = 0 := by
 unfold arR
 rcases hk with g | g
 ·rw [if_pos g]; rcases Wj ha hb with h | ⟨h, _⟩ <;> rw [h] <;> simp
 ·rw [if_neg (show ¬ k = 3 by omega), if_pos g]; rcases JI ha hb with h | ⟨h, _⟩ <;> rw [h] <;> simp
theorem zbd {k : Int} {t u : Tp} {inp : List (List UInt8)} {i : Int} {h : List UInt8} (hk : k = 3 ∨ k = 4) (hn : t.n = u.n) (hl : t.ops.length + u.ops.length ≤ 400) (h1 : (zP t inp i h).2 = 0) (h2 : (zP u inp i h).2 = 0)
  (h3 : (arR k (zP t inp i h).1 (zP u inp i h).1).2 = 0) : (zP (vB k t u) inp i h).2 = 14 ∨ (zP (vB k t u) inp i h).2 = 0 ∧ (zP (vB k t u) inp i h).1 = (arR k (zP t inp i h).1 (zP u inp i h).1).1 := by
 obtain ⟨D, r1, r2⟩ := ZE h1
 obtain ⟨E, s1, s2⟩ := ZE h2
 have hc := V3 hk D.c E.c hn hl
 have beg : ∀ {v : Tp}, (zP v inp i h).2 = 0 → begT v inp [i] h = 0 ∧ (atT v inp h [i]).2 = 0 := by
  intro v hv
  have hb : begT v inp [i] h = 0 := by
   refine Decidable.byContradiction fun g => ?_
   unfold zP at hv
   rw [if_pos g] at hv
   exact g hv
  refine ⟨hb, ?_⟩
  unfold zP at hv
  rw [if_neg (fun q => q hb)] at hv
  have := (X4 (ze1 hv).1).1
  unfold xC at this
  exact (X4 this).1
 obtain ⟨g1, g2⟩ := beg h1
 obtain ⟨g3, g4⟩ := beg h2
 obtain ⟨_, v1, v2⟩ := xF g1
 obtain ⟨_, w1, w2⟩ := xF g3
 have v0 := (zbv g1).1
 have w0 := (zbv g3).1
 have DJ : Dok (vB k t u) inp [i] h := ⟨hc, D.n, D.q, D.l, D.h0, D.hq⟩
 have ev : zx (vB k t u) inp = arR k (zx t inp).1 (zx u inp).1 := by
  have x1 := Jv D.c D.n D.q
  have x2 := Jv E.c E.n E.q
  rw [Jv hc DJ.n DJ.q, x1, x2]
  exact Q1 hk D.c E.c hn D.q D.n (by rw [← x1]; exact v0) (by rw [← x2]; exact w0)
 by_cases hv : (zx (vB k t u) inp).2 = 0
 ·have il := D.l i (by simp)
  have hil : i.toNat < inp.length := by have := D.n; omega
  have f0 : (addR (inp.getD i.toNat []) h).2 = 0 := by
   rcases Wj (qS D.q hil) D.h0 with g | ⟨g, _⟩
   ·rw [zfi (by rw [g])] at g2; cases g2
   ·rw [g]
  obtain ⟨x1, x2⟩ := xp (qS D.q hil) D.h0 f0
  have ea : atT (vB k t u) inp h [i] = arR k (atT t inp h [i]).1 (atT u inp h [i]).1 := by
   have y1 : atT t inp h [i] = _ := at_one f0
   have y2 : atT u inp h [i] = _ := at_one f0
   rw [at_one f0, y1, y2]
   exact Q1 hk D.c E.c hn (xZ D.q x1 _) (by simpa using D.n) (by rw [← y1]; exact g2) (by rw [← y2]; exact g4)
  obtain ⟨a1, a2⟩ := uk D.h0 D.c D.n D.q D.l g2
  obtain ⟨b1, b2⟩ := uk D.h0 E.c E.n E.q E.l g4
  rcases U5 DJ hv (by rw [ea]; exact Vr hk a1 b1) with g | g
  ·exact .inl g
  ·right
   obtain ⟨_, z1, z2⟩ := ZE g
   obtain ⟨g5, g6⟩ := beg g
   obtain ⟨m1, m2⟩ := uk D.h0 hc DJ.n DJ.q DJ.l g6
   obtain ⟨_, n1, n2⟩ := xF g5
   have c1 := X9 a1 b1 (k := k) (by rw [← ea]; exact g6)
   have c2 := X9 v1 w1 (k := k) (by rw [← ev]; exact hv)
   have c3 := X9 r1 s1 h3
   rw [← ea, m2, a2, b2] at c1
   rw [← ev, n2, v2, w2] at c2
   refine ⟨g, KJ z1 (Kz r1 s1 h3) ?_⟩
   rw [z2, c1, c2, c3, r2, s2]
   have := D.hq
   unfold arQ
   rcases hk with q | q
   ·simp only [q, if_true]; grind
   ·simp only [q]; simp only [show ¬ ((4 : Int) = 3) by decide, if_false, if_true]; grind
 ·left
  have hb : begT (vB k t u) inp [i] h = 14 := by
   unfold begT
   rw [if_pos hv]
   rcases Vr hk v1 w1 with g | g
   ·rw [ev]; exact g
   ·rw [ev] at hv; exact absurd g hv
  unfold zP
  rw [if_pos (by rw [hb]; decide), hb]
end Go.Nov
end

/- Tapes: checks. -/
section
set_option maxRecDepth 100000
open Go Go.Sx Go.Proofs Go.Nov
namespace Go.Proofs.Tryz
attribute [local simp] eqKV eqA eqA0 eqH eqB eqL eqL0
noncomputable def K73 : List Go.Sx.Item := [.code (Tryz.f73.body.getD .skip)]
noncomputable def bwI : Ctr := inlC Tryz.prog noG 100 Tryz.f29
theorem XH : zg Tryz.prog 29 bwI := wP hmix z3 rfl rfl
def JC (o : TOp) : Prop := o.rat.length < 2 ^ 60
def qe (t : Tp) : Prop := t.ops.length < 2 ^ 60 ∧ ∀ j, j < t.ops.length → JC (t.ops.getD j TOp.nil)
def Xj : Ctr := ctrP true (fun t : Tp => [t.av]) qe (fun t r => r = zh t) (fun _ (r : Int) => (.int .i64 r, []))
def SBc (ops : List TOp) (ok : Bool) (i : Nat) : KV := [(1, .ptr 0 0), (3, .bool ok), (25, opS ops), (26, .int .i64 (ops.length : Int)), (27, .int .i64 (i : Int)), (38, .undef), (39, .undef), (40, .undef), (41, .undef), (42, .undef), (45, .undef), (46, .undef), (47, .undef), (48, .undef), (49, .undef), (50, .undef), (51, .undef), (57, .undef), (58, .undef), (59, .undef), (60, .undef), (63, .undef), (64, .undef), (65, .undef), (68, .undef), (69, .undef), (70, .undef), (79, .undef), (80, .undef), (81, .undef), (82, .undef), (85, .undef), (86, .undef), (87, .undef), (88, .undef), (91, .undef), (92, .undef), (93, .undef)]
def HBc (n : Int) (ops : List TOp) : Heap := [.box [.int .i64 n, opS ops]]
noncomputable def GT1 : Nat → Option Ctr := fun f => if f = 29 then some (bwI) else if f = 30 then some (km) else none
theorem zaz : ∀ g c, GT1 g = some c → zg Tryz.prog g c := okIf XH (okIf wK (zp))
theorem Yx : zg Tryz.prog 73 Xj := by
 refine zi (fn := Tryz.f73) (c := Tryz.f73.body.getD .skip) rfl rfl rfl fun p hp O w0 Q hq => ?_
 obtain ⟨n, ops⟩ := p
 obtain ⟨h1, h2⟩ := hp
 replace hq := hq _ rfl
 simp only at h1 h2 hq
 refine zd.run hmix zaz [1, 3, 25, 26, 27, 38, 39, 40, 41, 42, 45, 46, 47, 48, 49, 50, 51, 57, 58, 59, 60, 63, 64, 65, 68, 69, 70, 79, 80, 81, 82, 85, 86, 87, 88, 91, 92, 93] 400 (T := .ite (decide ((500 : Int) < ops.length)) (.leaf (.ret [.int .i64 4] [.box [.int .i64 n, .sl ops.length 4 (opG ops)]])) (.leaf (.loop (Prod.fst (lps K73 0)) (Prod.snd (lps K73 0)) [(1, .ptr 0 0), (3, .bool (bif bif decide ((0 : Int) ≤ n) then decide (n ≤ 500) else false then decide ((0 : Int) < ops.length) else false)), (25, .sl ops.length 4 (opG ops)), (26, .int .i64 ops.length), (27, .int .i64 0), (38, .undef), (39, .undef), (40, .undef), (41, .undef), (42, .undef), (45, .undef), (46, .undef), (47, .undef), (48, .undef), (49, .undef), (50, .undef), (51, .undef), (57, .undef), (58, .undef), (59, .undef), (60, .undef), (63, .undef), (64, .undef), (65, .undef), (68, .undef), (69, .undef), (70, .undef), (79, .undef), (80, .undef), (81, .undef), (82, .undef), (85, .undef), (86, .undef), (87, .undef), (88, .undef), (91, .undef), (92, .undef), (93, .undef)] [.box [.int .i64 n, .sl ops.length 4 (opG ops)]]))) (by kernel_rfl) ?_
 simp only [Tree.holds, ze]
 refine ⟨fun h => ?_, fun h => ?_⟩
 ·have h : 500 < ops.length := by have := of_decide_eq_true h; omega
  have e : zh ⟨n, ops⟩ = 4 := by unfold zh; rw [if_pos h]
  rw [e] at hq
  exact RetR.scal hq rfl (by simp [resV])
 have hl : ¬ 500 < ops.length := by have := of_decide_eq_false h; omega
 refine zd.loop (ι := {i : Nat // i ≤ ops.length}) (fun i => SBc ops (vN ⟨n, ops⟩ && ji ⟨n, ops⟩ i.1) i.1) (fun _ => HBc n ops) (fun i => ops.length - i.1) ⟨0, Nat.zero_le _⟩ 0 ?_ ?_ (by kernel_rfl)
 ·refine ⟨?_, by simp [HBc, opS, zc], by kernel_rfl, Nat.zero_le _⟩
  simp [SBc, opS, zc, vN, ji]
 ·rintro ⟨i, hil⟩
  obtain ⟨ok, hok⟩ : ∃ ok, (vN ⟨n, ops⟩ && ji ⟨n, ops⟩ i) = ok := ⟨_, rfl⟩
  simp only [hok]
  refine zd.run hmix zaz [1, 3, 25, 26, 27, 38, 39, 40, 41, 42, 45, 46, 47, 48, 49, 50, 51, 57, 58, 59, 60, 63, 64, 65, 68, 69, 70, 79, 80, 81, 82, 85, 86, 87, 88, 91, 92, 93] 400 (T := .ite (decide ((↑i : Int) < ops.length)) (.side ((0 : Int) ≤ i ∧ (↑i : Int) < ops.length) (.ite (decide (TOp.kind (List.getD ops (Int.toNat (↑i : Int)) TOp.nil) = (1 : Int))) (.side (inR .i64 ((↑i : Int) + (1 : Int))) (.leaf (.back 0 [(1, .ptr 0 0), (3, .bool (bif bif ok then bif decide ((0 : Int) ≤ TOp.a (List.getD ops (Int.toNat (↑i : Int)) TOp.nil)) then decide (TOp.a (List.getD ops (Int.toNat (↑i : Int)) TOp.nil) < n) else false else false then decide (TOp.kind (List.getD ops (Int.toNat (↑i : Int)) TOp.nil) = TOp.kind (List.getD ops (Int.toNat (↑i : Int)) TOp.nil)) && (decide (TOp.a (List.getD ops (Int.toNat (↑i : Int)) TOp.nil) = TOp.a (List.getD ops (Int.toNat (↑i : Int)) TOp.nil)) && (decide (TOp.b (List.getD ops (Int.toNat (↑i : Int)) TOp.nil) = (0 : Int)) && (decide (TOp.rat (List.getD ops (Int.toNat (↑i : Int)) TOp.nil) = Array.toList #[]) && true))) else false)), (25, .sl ops.length 4 (opG ops)), (26, .int .i64 ops.length), (27, .int .i64 ((↑i : Int) + (1 : Int))), (38, .undef), (39, .undef), (40, .undef), (41, .undef), (42, .undef), (45, .undef), (46, .undef), (47, .undef), (48, .undef), (49, .undef), (50, .undef), (51, .undef), (57, .undef), (58, .undef), (59, .undef), (60, .undef), (63, .undef), (64, .undef), (65, .undef), (68, .undef), (69, .undef), (70, .undef), (79, .undef), (80, .undef), (81, .undef), (82, .undef), (85, .undef), (86, .undef), (87, .undef), (88, .undef), (91, .undef), (92, .undef), (93, .undef)] [.box [.int .i64 n, .sl ops.length 4 (opG ops)], .box [.int .u8 (TOp.kind (List.getD ops (Int.toNat (↑i : Int)) TOp.nil)), .int .i64 (TOp.a (List.getD ops (Int.toNat (↑i : Int)) TOp.nil)), .int .i64 (TOp.b (List.getD ops (Int.toNat (↑i : Int)) TOp.nil)), .str (TOp.rat (List.getD ops (Int.toNat (↑i : Int)) TOp.nil))]]))) (.ite (decide (TOp.kind (List.getD ops (Int.toNat (↑i : Int)) TOp.nil) = (2 : Int))) (.ex (fun (x : List UInt8) => ok = true → eqL [AV.str (TOp.rat (List.getD ops (Int.toNat (↑i : Int)) TOp.nil))] [AV.str x] ∧ x.length < 4611686018427387904) fun n_1 => .all (fun (x : Int) => ok = true → x = errR n_1) fun n_2 => .side (inR .i64 ((↑i : Int) + (1 : Int))) (.leaf (.back 0 [(1, .ptr 0 0), (3, .bool (bif bif bif ok then decide (n_2 = 0) else false then decide (TOp.a (List.getD ops (Int.toNat (↑i : Int)) TOp.nil) = (0 : Int)) else false then decide (TOp.b (List.getD ops (Int.toNat (↑i : Int)) TOp.nil) = (0 : Int)) else false)), (25, .sl ops.length 4 (opG ops)), (26, .int .i64 ops.length), (27, .int .i64 ((↑i : Int) + (1 : Int))), (38, .undef), (39, .undef), (40, .undef), (41, .undef), (42, .undef), (45, .undef), (46, .undef), (47, .undef), (48, .undef), (49, .undef), (50, .undef), (51, .undef), (57, .undef), (58, .undef), (59, .undef), (60, .undef), (63, .undef), (64, .undef), (65, .undef), (68, .undef), (69, .undef), (70, .undef), (79, .undef), (80, .undef), (81, .undef), (82, .undef), (85, .undef), (86, .undef), (87, .undef), (88, .undef), (91, .undef), (92, .undef), (93, .undef)] [.box [.int .i64 n, .sl ops.length 4 (opG ops)], .box [.int .u8 (TOp.kind (List.getD ops (Int.toNat (↑i : Int)) TOp.nil)), .int .i64 (TOp.a (List.getD ops (Int.toNat (↑i : Int)) TOp.nil)), .int .i64 (TOp.b (List.getD ops (Int.toNat (↑i : Int)) TOp.nil)), .str (TOp.rat (List.getD ops (Int.toNat (↑i : Int)) TOp.nil))]]))) (.ite (decide (TOp.kind (List.getD ops (Int.toNat (↑i : Int)) TOp.nil) = (3 : Int))) (.ite (decide (TOp.kind (List.getD ops (Int.toNat (↑i : Int)) TOp.nil) = (3 : Int))) (.side (inR .i64 ((↑i : Int) + (1 : Int))) (.leaf (.back 0 [(1, .ptr 0 0), (3, .bool (bif bif bif ok then bif decide ((0 : Int) ≤ TOp.a (List.getD ops (Int.toNat (↑i : Int)) TOp.nil)) then decide (TOp.a (List.getD ops (Int.toNat (↑i : Int)) TOp.nil) < (↑i : Int)) else false else false then bif decide ((0 : Int) ≤ TOp.b (List.getD ops (Int.toNat (↑i : Int)) TOp.nil)) then decide (TOp.b (List.getD ops (Int.toNat (↑i : Int)) TOp.nil) < (↑i : Int)) else false else false then decide (TOp.rat (List.getD ops (Int.toNat (↑i : Int)) TOp.nil) = Array.toList #[]) else false)), (25, .sl ops.length 4 (opG ops)), (26, .int .i64 ops.length), (27, .int .i64 ((↑i : Int) + (1 : Int))), (38, .undef), (39, .undef), (40, .undef), (41, .undef), (42, .undef), (45, .undef), (46, .undef), (47, .undef), (48, .undef), (49, .undef), (50, .undef), (51, .undef), (57, .undef), (58, .undef), (59, .undef), (60, .undef), (63, .undef), (64, .undef), (65, .undef), (68, .undef), (69, .undef), (70, .undef), (79, .undef), (80, .undef), (81, .undef), (82, .undef), (85, .undef), (86, .undef), (87, .undef), (88, .undef), (91, .undef), (92, .undef), (93, .undef)] [.box [.int .i64 n, .sl ops.length 4 (opG ops)], .box [.int .u8 (TOp.kind (List.getD ops (Int.toNat (↑i : Int)) TOp.nil)), .int .i64 (TOp.a (List.getD ops (Int.toNat (↑i : Int)) TOp.nil)), .int .i64 (TOp.b (List.getD ops (Int.toNat (↑i : Int)) TOp.nil)), .str (TOp.rat (List.getD ops (Int.toNat (↑i : Int)) TOp.nil))]]))) (.side (inR .i64 ((↑i : Int) + (1 : Int))) (.leaf (.back 0 [(1, .ptr 0 0), (3, .bool false), (25, .sl ops.length 4 (opG ops)), (26, .int .i64 ops.length), (27, .int .i64 ((↑i : Int) + (1 : Int))), (38, .undef), (39, .undef), (40, .undef), (41, .undef), (42, .undef), (45, .undef), (46, .undef), (47, .undef), (48, .undef), (49, .undef), (50, .undef), (51, .undef), (57, .undef), (58, .undef), (59, .undef), (60, .undef), (63, .undef), (64, .undef), (65, .undef), (68, .undef), (69, .undef), (70, .undef), (79, .undef), (80, .undef), (81, .undef), (82, .undef), (85, .undef), (86, .undef), (87, .undef), (88, .undef), (91, .undef), (92, .undef), (93, .undef)] [.box [.int .i64 n, .sl ops.length 4 (opG ops)], .box [.int .u8 (TOp.kind (List.getD ops (Int.toNat (↑i : Int)) TOp.nil)), .int .i64 (TOp.a (List.getD ops (Int.toNat (↑i : Int)) TOp.nil)), .int .i64 (TOp.b (List.getD ops (Int.toNat (↑i : Int)) TOp.nil)), .str (TOp.rat (List.getD ops (Int.toNat (↑i : Int)) TOp.nil))]])))) (.ite (decide (TOp.kind (List.getD ops (Int.toNat (↑i : Int)) TOp.nil) = (4 : Int))) (.ite (decide (TOp.kind (List.getD ops (Int.toNat (↑i : Int)) TOp.nil) = (4 : Int))) (.side (inR .i64 ((↑i : Int) + (1 : Int))) (.leaf (.back 0 [(1, .ptr 0 0), (3, .bool (bif bif bif ok then bif decide ((0 : Int) ≤ TOp.a (List.getD ops (Int.toNat (↑i : Int)) TOp.nil)) then decide (TOp.a (List.getD ops (Int.toNat (↑i : Int)) TOp.nil) < (↑i : Int)) else false else false then bif decide ((0 : Int) ≤ TOp.b (List.getD ops (Int.toNat (↑i : Int)) TOp.nil)) then decide (TOp.b (List.getD ops (Int.toNat (↑i : Int)) TOp.nil) < (↑i : Int)) else false else false then decide (TOp.rat (List.getD ops (Int.toNat (↑i : Int)) TOp.nil) = Array.toList #[]) else false)), (25, .sl ops.length 4 (opG ops)), (26, .int .i64 ops.length), (27, .int .i64 ((↑i : Int) + (1 : Int))), (38, .undef), (39, .undef), (40, .undef), (41, .undef), (42, .undef), (45, .undef), (46, .undef), (47, .undef), (48, .undef), (49, .undef), (50, .undef), (51, .undef), (57, .undef), (58, .undef), (59, .undef), (60, .undef), (63, .undef), (64, .undef), (65, .undef), (68, .undef), (69, .undef), (70, .undef), (79, .undef), (80, .undef), (81, .undef), (82, .undef), (85, .undef), (86, .undef), (87, .undef), (88, .undef), (91, .undef), (92, .undef), (93, .undef)] [.box [.int .i64 n, .sl ops.length 4 (opG ops)], .box [.int .u8 (TOp.kind (List.getD ops (Int.toNat (↑i : Int)) TOp.nil)), .int .i64 (TOp.a (List.getD ops (Int.toNat (↑i : Int)) TOp.nil)), .int .i64 (TOp.b (List.getD ops (Int.toNat (↑i : Int)) TOp.nil)), .str (TOp.rat (List.getD ops (Int.toNat (↑i : Int)) TOp.nil))]]))) (.side (inR .i64 ((↑i : Int) + (1 : Int))) (.leaf (.back 0 [(1, .ptr 0 0), (3, .bool false), (25, .sl ops.length 4 (opG ops)), (26, .int .i64 ops.length), (27, .int .i64 ((↑i : Int) + (1 : Int))), (38, .undef), (39, .undef), (40, .undef), (41, .undef), (42, .undef), (45, .undef), (46, .undef), (47, .undef), (48, .undef), (49, .undef), (50, .undef), (51, .undef), (57, .undef), (58, .undef), (59, .undef), (60, .undef), (63, .undef), (64, .undef), (65, .undef), (68, .undef), (69, .undef), (70, .undef), (79, .undef), (80, .undef), (81, .undef), (82, .undef), (85, .undef), (86, .undef), (87, .undef), (88, .undef), (91, .undef), (92, .undef), (93, .undef)] [.box [.int .i64 n, .sl ops.length 4 (opG ops)], .box [.int .u8 (TOp.kind (List.getD ops (Int.toNat (↑i : Int)) TOp.nil)), .int .i64 (TOp.a (List.getD ops (Int.toNat (↑i : Int)) TOp.nil)), .int .i64 (TOp.b (List.getD ops (Int.toNat (↑i : Int)) TOp.nil)), .str (TOp.rat (List.getD ops (Int.toNat (↑i : Int)) TOp.nil))]])))) (.ite (decide (TOp.kind (List.getD ops (Int.toNat (↑i : Int)) TOp.nil) = (5 : Int))) (.ite (decide (TOp.kind (List.getD ops (Int.toNat (↑i : Int)) TOp.nil) = (5 : Int))) (.side (inR .i64 ((↑i : Int) + (1 : Int))) (.leaf (.back 0 [(1, .ptr 0 0), (3, .bool (bif bif bif ok then bif decide ((0 : Int) ≤ TOp.a (List.getD ops (Int.toNat (↑i : Int)) TOp.nil)) then decide (TOp.a (List.getD ops (Int.toNat (↑i : Int)) TOp.nil) < (↑i : Int)) else false else false then bif decide ((0 : Int) ≤ TOp.b (List.getD ops (Int.toNat (↑i : Int)) TOp.nil)) then decide (TOp.b (List.getD ops (Int.toNat (↑i : Int)) TOp.nil) < (↑i : Int)) else false else false then decide (TOp.rat (List.getD ops (Int.toNat (↑i : Int)) TOp.nil) = Array.toList #[]) else false)), (25, .sl ops.length 4 (opG ops)), (26, .int .i64 ops.length), (27, .int .i64 ((↑i : Int) + (1 : Int))), (38, .undef), (39, .undef), (40, .undef), (41, .undef), (42, .undef), (45, .undef), (46, .undef), (47, .undef), (48, .undef), (49, .undef), (50, .undef), (51, .undef), (57, .undef), (58, .undef), (59, .undef), (60, .undef), (63, .undef), (64, .undef), (65, .undef), (68, .undef), (69, .undef), (70, .undef), (79, .undef), (80, .undef), (81, .undef), (82, .undef), (85, .undef), (86, .undef), (87, .undef), (88, .undef), (91, .undef), (92, .undef), (93, .undef)] [.box [.int .i64 n, .sl ops.length 4 (opG ops)], .box [.int .u8 (TOp.kind (List.getD ops (Int.toNat (↑i : Int)) TOp.nil)), .int .i64 (TOp.a (List.getD ops (Int.toNat (↑i : Int)) TOp.nil)), .int .i64 (TOp.b (List.getD ops (Int.toNat (↑i : Int)) TOp.nil)), .str (TOp.rat (List.getD ops (Int.toNat (↑i : Int)) TOp.nil))]]))) (.side (inR .i64 ((↑i : Int) + (1 : Int))) (.leaf (.back 0 [(1, .ptr 0 0), (3, .bool false), (25, .sl ops.length 4 (opG ops)), (26, .int .i64 ops.length), (27, .int .i64 ((↑i : Int) + (1 : Int))), (38, .undef), (39, .undef), (40, .undef), (41, .undef), (42, .undef), (45, .undef), (46, .undef), (47, .undef), (48, .undef), (49, .undef), (50, .undef), (51, .undef), (57, .undef), (58, .undef), (59, .undef), (60, .undef), (63, .undef), (64, .undef), (65, .undef), (68, .undef), (69, .undef), (70, .undef), (79, .undef), (80, .undef), (81, .undef), (82, .undef), (85, .undef), (86, .undef), (87, .undef), (88, .undef), (91, .undef), (92, .undef), (93, .undef)] [.box [.int .i64 n, .sl ops.length 4 (opG ops)], .box [.int .u8 (TOp.kind (List.getD ops (Int.toNat (↑i : Int)) TOp.nil)), .int .i64 (TOp.a (List.getD ops (Int.toNat (↑i : Int)) TOp.nil)), .int .i64 (TOp.b (List.getD ops (Int.toNat (↑i : Int)) TOp.nil)), .str (TOp.rat (List.getD ops (Int.toNat (↑i : Int)) TOp.nil))]])))) (.ite (decide (TOp.kind (List.getD ops (Int.toNat (↑i : Int)) TOp.nil) = (6 : Int))) (.side (inR .i64 ((↑i : Int) + (1 : Int))) (.leaf (.back 0 [(1, .ptr 0 0), (3, .bool (bif bif bif ok then bif decide ((0 : Int) ≤ TOp.a (List.getD ops (Int.toNat (↑i : Int)) TOp.nil)) then decide (TOp.a (List.getD ops (Int.toNat (↑i : Int)) TOp.nil) < (↑i : Int)) else false else false then bif decide ((0 : Int) ≤ TOp.b (List.getD ops (Int.toNat (↑i : Int)) TOp.nil)) then decide (TOp.b (List.getD ops (Int.toNat (↑i : Int)) TOp.nil) < (↑i : Int)) else false else false then decide (TOp.rat (List.getD ops (Int.toNat (↑i : Int)) TOp.nil) = Array.toList #[]) else false)), (25, .sl ops.length 4 (opG ops)), (26, .int .i64 ops.length), (27, .int .i64 ((↑i : Int) + (1 : Int))), (38, .undef), (39, .undef), (40, .undef), (41, .undef), (42, .undef), (45, .undef), (46, .undef), (47, .undef), (48, .undef), (49, .undef), (50, .undef), (51, .undef), (57, .undef), (58, .undef), (59, .undef), (60, .undef), (63, .undef), (64, .undef), (65, .undef), (68, .undef), (69, .undef), (70, .undef), (79, .undef), (80, .undef), (81, .undef), (82, .undef), (85, .undef), (86, .undef), (87, .undef), (88, .undef), (91, .undef), (92, .undef), (93, .undef)] [.box [.int .i64 n, .sl ops.length 4 (opG ops)], .box [.int .u8 (TOp.kind (List.getD ops (Int.toNat (↑i : Int)) TOp.nil)), .int .i64 (TOp.a (List.getD ops (Int.toNat (↑i : Int)) TOp.nil)), .int .i64 (TOp.b (List.getD ops (Int.toNat (↑i : Int)) TOp.nil)), .str (TOp.rat (List.getD ops (Int.toNat (↑i : Int)) TOp.nil))]]))) (.side (inR .i64 ((↑i : Int) + (1 : Int))) (.leaf (.back 0 [(1, .ptr 0 0), (3, .bool false), (25, .sl ops.length 4 (opG ops)), (26, .int .i64 ops.length), (27, .int .i64 ((↑i : Int) + (1 : Int))), (38, .undef), (39, .undef), (40, .undef), (41, .undef), (42, .undef), (45, .undef), (46, .undef), (47, .undef), (48, .undef), (49, .undef), (50, .undef), (51, .undef), (57, .undef), (58, .undef), (59, .undef), (60, .undef), (63, .undef), (64, .undef), (65, .undef), (68, .undef), (69, .undef), (70, .undef), (79, .undef), (80, .undef), (81, .undef), (82, .undef), (85, .undef), (86, .undef), (87, .undef), (88, .undef), (91, .undef), (92, .undef), (93, .undef)] [.box [.int .i64 n, .sl ops.length 4 (opG ops)], .box [.int .u8 (TOp.kind (List.getD ops (Int.toNat (↑i : Int)) TOp.nil)), .int .i64 (TOp.a (List.getD ops (Int.toNat (↑i : Int)) TOp.nil)), .int .i64 (TOp.b (List.getD ops (Int.toNat (↑i : Int)) TOp.nil)), .str (TOp.rat (List.getD ops (Int.toNat (↑i : Int)) TOp.nil))]])))))))))) (.ite (!ok) (.leaf (.ret [.int .i64 8] [.box [.int .i64 n, .sl ops.length 4 (opG ops)]])) (.leaf (.ret [.int .i64 0] [.box [.int .i64 n, .sl ops.length 4 (opG ops)]])))) (by kernel_rfl) ?_
  simp only [Tree.holds, ze, inR, lo, hi, Int.toNat_natCast]
  refine ⟨fun hlt => ?_, fun hge => ?_⟩
  ·have hlt : i < ops.length := by have := of_decide_eq_true hlt; omega
   have hsm := h2 i hlt
   have hs : (vN ⟨n, ops⟩ && ji ⟨n, ops⟩ (i + 1)) = (ok && okOp n i (ops.getD i TOp.nil)) := by rw [ZB, ← Bool.and_assoc, hok]
   obtain ⟨o, ho⟩ : ∃ o, ops.getD i TOp.nil = o := ⟨_, rfl⟩
   rw [ho] at hs hsm
   simp only [ho]
   refine ⟨by omega, fun _ => ?_⟩
   have hk : (∃ x' : {i : Nat // i ≤ ops.length}, x' = ⟨i + 1, hlt⟩) := ⟨_, rfl⟩
   refine ⟨fun k1 => ?_, fun k1 => ⟨fun k2 => ⟨o.rat, fun _ => ⟨⟨rfl, trivial⟩, by unfold JC at hsm; omega⟩, ⟨_, fun _ => rfl⟩, fun e he => ?_⟩, fun k2 => ⟨fun k3 => ⟨fun k3' => ?_, fun k3' => ?_⟩, fun k3 => ⟨fun k4 => ⟨fun k4' => ?_, fun k4' => ?_⟩, fun k4 => ⟨fun k5 => ⟨fun k5' => ?_, fun k5' => ?_⟩, fun k5 => ⟨fun k6 => ?_, fun k6 => ?_⟩⟩⟩⟩⟩⟩
   all_goals
    refine ⟨by omega, fun _ => ?_⟩
    rw [if_pos trivial]
    refine ⟨⟨i + 1, hlt⟩, by show ops.length - (i + 1) < ops.length - i; omega, ?_, by simp [HBc, opS, zc], by kernel_rfl, Nat.zero_le _⟩
    simp only [hs]
    clear hs hok hq h2 h1
    cases ok <;> simp_all [SBc, opS, zc, okOp, Bool.and_assoc] <;> (intros; omega)
  ·have hge : i = ops.length := by have := of_decide_eq_false hge; omega
   subst hge
   have e : zh ⟨n, ops⟩ = if ok = true then 0 else 8 := by unfold zh; rw [if_neg hl, ← hok]
   refine ⟨fun h => ?_, fun h => ?_⟩
   ·have h : ok = false := by simpa using h
    rw [e, h, if_neg (by decide)] at hq
    exact RetR.scal hq rfl (by simp [resV])
   ·have h : ok = true := by simpa using h
    rw [e, h, if_pos rfl] at hq
    exact RetR.scal hq rfl (by simp [resV])
end Go.Proofs.Tryz
end

/- Tapes: runs, values. -/
section
set_option maxRecDepth 100000
open Go Go.Sx Go.Proofs Go.Nov
namespace Go.Proofs.Tryz
attribute [local simp] eqKV eqA eqA0 eqH eqB eqL eqL0
noncomputable def K38 : List Go.Sx.Item := [.code (Tryz.f38.body.getD .skip)]
noncomputable def bexI : Ctr := inlC Tryz.prog noG 100 Tryz.f58
theorem zf1 : zg Tryz.prog 58 bexI := wP hmix z3 rfl rfl
noncomputable def bofI : Ctr := inlC Tryz.prog noG 100 Tryz.f59
theorem zfd : zg Tryz.prog 59 bofI := wP hmix z3 rfl rfl
def qt (l : List (List UInt8)) : Prop := l.length < 2 ^ 60 ∧ ∀ j, j < l.length → (l.getD j []).length < 2 ^ 60
def Vc : Ctr := ctrP true (fun p : Tp × List (List UInt8) => [p.1.av, ratS p.2]) (fun p => zh p.1 = 0 ∧ (p.2.length : Int) = p.1.n ∧ allQ p.2) (fun p r => r = runF p.2 p.1.ops []) (fun _ (r : List (List UInt8) × Int) => (.tup [.osl 0 1 0 r.1.length, .int .i64 r.2], [.arr r.1.length 1 (ratG r.1)]))
theorem zct {l : List (List UInt8)} {v : List UInt8} {n i : Nat} (h : l.length = i) : eqG n 1 (updG (ratG l) i 0 [.str v]) (ratG (l ++ [v])) := by
 intro j o hj ho
 have ho : o = 0 := by omega
 subst ho
 simp only [updG, ratG]
 by_cases hji : j = i
 ·subst hji; subst h
  simp [List.getD]
 ·rw [if_neg (by simp [hji])]
  congr 1
  simp only [List.getD, List.getElem?_append]
  split
  ·rfl
  ·rename_i g
   rw [List.getElem?_eq_none (by omega), List.getElem?_eq_none (by simp; omega)]
theorem zae (n : Nat) : eqG n 1 (w6 [.str []]) (ratG []) := by
 intro j o hj ho
 have ho : o = 0 := by omega
 subst ho
 simp [w6, ratG]
def SBr (inp : List (List UInt8)) (ops : List TOp) (i : Nat) : KV := [(1, ratS inp), (6, .ptr 2 0), (7, .osl 3 1 0 ops.length), (18, opS ops), (19, .int .i64 (ops.length : Int)), (20, .int .i64 (i : Int))]
def HBr (n : Int) (ops : List TOp) (l : List (List UInt8)) : Heap := [.box [.int .i64 n, opS ops], .dead, .box [.fn 24 [] [], .fn 17 [] [], .fn 27 [] [], .fn 31 [] []], .arr ops.length 1 (ratG l)]
theorem Zh {ctr : Ctr} {Q : AV × Heap → Prop} (e : Int) (h : Heap) (hq : Q (.tup [.osl 0 1 0 ([] : List (List UInt8)).length, .int .i64 e], [.arr ([] : List (List UInt8)).length 1 (ratG [])])) : RetR ctr 0 (upQ Q) [.nils, .int .i64 e] h := by
 refine RetR.out0 (r := .tup [.nils, .int .i64 e]) (.inr ⟨_, [(1, ratG [])], ?_, hq⟩) (fun _ => by simp [resV, new2, new1, new0, zX]) (by simp [resV, exp2, exp1, exp0, ren0, eqA2, eqL1])
 simp [upA2, upA1, upA0, upL1, upL0]
theorem Zb {n : Nat} {g : Nat → Nat → AV} {l : List (List UInt8)} (h : eqG n 1 g (ratG l)) : newB (.arr n 1 g) := by
 intro j o hj ho
 rw [h j o hj ho]; rfl
theorem Xz {l : List (List UInt8)} (h : allQ l) (j : Nat) : (l.getD j []).length ≤ 2003 := by
 by_cases g : j < l.length
 ·exact zR (qS h g)
 ·simp only [List.getD]; rw [List.getElem?_eq_none (by omega)]; simp
noncomputable def GT2 : Nat → Option Ctr := fun f => if f = 58 then some (bexI) else if f = 59 then some (bofI) else if f = 24 then some (zb7) else if f = 17 then some (Vp) else if f = 27 then some (UJ) else if f = 31 then some (zbk) else none
theorem zbo : ∀ g c, GT2 g = some c → zg Tryz.prog g c := okIf zf1 (okIf zfd (okIf Yb (okIf uU (okIf Xv (okIf Ye (zp))))))
theorem XE : zg Tryz.prog 38 Vc := by
 refine Zc (fn := Tryz.f38) (c := Tryz.f38.body.getD .skip) rfl rfl rfl fun p hp O w0 Q hq => ?_
 obtain ⟨⟨n, ops⟩, inp⟩ := p
 obtain ⟨hc, hn, hqi⟩ := hp
 replace hq := hq _ rfl
 simp only at hc hn hqi hq
 refine zd.run hmix zbo [1, 6, 7, 18, 19, 20] 400 (T := .side ((0 : Int) ≤ ops.length ∧ (↑ops.length : Int) ≤ ops.length ∧ inR .i64 (↑ops.length : Int) ∧ Int.toNat (↑ops.length : Int) * 16 ≤ 140737488355328) (.leaf (.loop (Prod.fst (lps K38 0)) (Prod.snd (lps K38 0)) [(1, .sl inp.length 1 (ratG inp)), (6, .ptr 2 0), (7, .osl 3 1 0 (Int.toNat (↑ops.length : Int))), (18, .sl ops.length 4 (opG ops)), (19, .int .i64 ops.length), (20, .int .i64 0)] [.box [.int .i64 n, .sl ops.length 4 (opG ops)], .box [.fn 24 [] [], .fn 17 [] [], .fn 27 [] [], .fn 31 [] []], .box [.fn 24 [] [], .fn 17 [] [], .fn 27 [] [], .fn 31 [] []], .arr (Int.toNat (↑ops.length : Int)) 1 (w6 [.str (Array.toList #[])])]))) (by kernel_rfl) ?_
 simp only [Tree.holds, ze]
 obtain ⟨c1, c2, c3, c4, c5⟩ := qw.1 hc
 simp only at c1 c2 c3 c4 c5
 simp only [inR, lo, hi, Int.toNat_natCast]
 refine ⟨⟨by omega, by omega, by omega, by omega⟩, fun _ => ?_⟩
 refine zd.loop (ι := {p : Nat × List (List UInt8) // p.1 ≤ ops.length ∧ p.2.length = p.1 ∧ allQ p.2 ∧ runF inp (ops.drop p.1) p.2 = runF inp ops []}) (fun p => SBr inp ops p.1.1) (fun p => HBr n ops p.1.2) (fun p => ops.length - p.1.1) ⟨(0, []), Nat.zero_le _, rfl, fun x hx => absurd hx (by simp), by simp⟩ 0 ?_ ?_ (by kernel_rfl)
 ·exact ⟨by simp [SBr, ratS, opS, zc], ⟨by simp [opS, zc], trivial, by simp, ⟨rfl, rfl, zae _⟩, trivial⟩, by kernel_rfl, Nat.zero_le _⟩
 rintro ⟨⟨i, l⟩, hil, hll, hlq, hlr⟩
 simp only at hil hll hlq hlr
 refine zd.run hmix zbo [1, 6, 7, 18, 19, 20] 400 (T := .ite (decide ((↑i : Int) < ops.length)) (.side ((0 : Int) ≤ i ∧ (↑i : Int) < ops.length) (.ite (decide (TOp.kind (List.getD ops (Int.toNat (↑i : Int)) TOp.nil) = (1 : Int))) (.side ((0 : Int) ≤ TOp.a (List.getD ops (Int.toNat (↑i : Int)) TOp.nil) ∧ TOp.a (List.getD ops (Int.toNat (↑i : Int)) TOp.nil) < (↑inp.length : Int)) (.side ((0 : Int) ≤ i ∧ (↑i : Int) < ops.length) (.side (inR .i64 ((↑i : Int) + (1 : Int))) (.leaf (.back 0 [(1, .sl inp.length 1 (ratG inp)), (6, .ptr 2 0), (7, .osl 3 1 0 ops.length), (18, .sl ops.length 4 (opG ops)), (19, .int .i64 ops.length), (20, .int .i64 ((↑i : Int) + (1 : Int)))] [.box [.int .i64 n, .sl ops.length 4 (opG ops)], .dead, .box [.fn 24 [] [], .fn 17 [] [], .fn 27 [] [], .fn 31 [] []], .arr ops.length 1 (updG (ratG l) (0 + Int.toNat (↑i : Int)) 0 [.str (List.getD inp (Int.toNat (TOp.a (List.getD ops (Int.toNat (↑i : Int)) TOp.nil))) [])]), .box [.int .u8 (TOp.kind (List.getD ops (Int.toNat (↑i : Int)) TOp.nil)), .int .i64 (TOp.a (List.getD ops (Int.toNat (↑i : Int)) TOp.nil)), .int .i64 (TOp.b (List.getD ops (Int.toNat (↑i : Int)) TOp.nil)), .str (TOp.rat (List.getD ops (Int.toNat (↑i : Int)) TOp.nil))]]))))) (.ite (decide (TOp.kind (List.getD ops (Int.toNat (↑i : Int)) TOp.nil) = (2 : Int))) (.side ((0 : Int) ≤ i ∧ (↑i : Int) < ops.length) (.side (inR .i64 ((↑i : Int) + (1 : Int))) (.leaf (.back 0 [(1, .sl inp.length 1 (ratG inp)), (6, .ptr 2 0), (7, .osl 3 1 0 ops.length), (18, .sl ops.length 4 (opG ops)), (19, .int .i64 ops.length), (20, .int .i64 ((↑i : Int) + (1 : Int)))] [.box [.int .i64 n, .sl ops.length 4 (opG ops)], .dead, .box [.fn 24 [] [], .fn 17 [] [], .fn 27 [] [], .fn 31 [] []], .arr ops.length 1 (updG (ratG l) (0 + Int.toNat (↑i : Int)) 0 [.str (TOp.rat (List.getD ops (Int.toNat (↑i : Int)) TOp.nil))]), .box [.int .u8 (TOp.kind (List.getD ops (Int.toNat (↑i : Int)) TOp.nil)), .int .i64 (TOp.a (List.getD ops (Int.toNat (↑i : Int)) TOp.nil)), .int .i64 (TOp.b (List.getD ops (Int.toNat (↑i : Int)) TOp.nil)), .str (TOp.rat (List.getD ops (Int.toNat (↑i : Int)) TOp.nil))]])))) (.side ((0 : Int) ≤ TOp.a (List.getD ops (Int.toNat (↑i : Int)) TOp.nil) ∧ TOp.a (List.getD ops (Int.toNat (↑i : Int)) TOp.nil) < (↑ops.length : Int)) (.side ((0 : Int) ≤ TOp.b (List.getD ops (Int.toNat (↑i : Int)) TOp.nil) ∧ TOp.b (List.getD ops (Int.toNat (↑i : Int)) TOp.nil) < (↑ops.length : Int)) (.ite (decide (TOp.kind (List.getD ops (Int.toNat (↑i : Int)) TOp.nil) = (3 : Int))) (.ex (fun (x : List UInt8 × List UInt8) => eqL [AV.str (List.getD l (0 + Int.toNat (TOp.a (List.getD ops (Int.toNat (↑i : Int)) TOp.nil))) []), AV.str (List.getD l (0 + Int.toNat (TOp.b (List.getD ops (Int.toNat (↑i : Int)) TOp.nil))) [])] [AV.str x.1, AV.str x.2] ∧ x.1.length < 2305843009213693952 ∧ x.2.length < 2305843009213693952) fun n_1 => .all (fun (r : List UInt8 × Int) => r = addR n_1.1 n_1.2) fun n_2 => .ite (!decide (n_2.2 = 0)) (.leaf (.ret [.nils, .int .i64 n_2.2] [.box [.int .i64 n, .sl ops.length 4 (opG ops)], .dead, .box [.fn 24 [] [], .fn 17 [] [], .fn 27 [] [], .fn 31 [] []], .arr ops.length 1 (ratG l), .box [.int .u8 (TOp.kind (List.getD ops (Int.toNat (↑i : Int)) TOp.nil)), .int .i64 (TOp.a (List.getD ops (Int.toNat (↑i : Int)) TOp.nil)), .int .i64 (TOp.b (List.getD ops (Int.toNat (↑i : Int)) TOp.nil)), .str (TOp.rat (List.getD ops (Int.toNat (↑i : Int)) TOp.nil))], .box [.fn 24 [] [], .fn 17 [] [], .fn 27 [] [], .fn 31 [] []]])) (.side ((0 : Int) ≤ i ∧ (↑i : Int) < ops.length) (.side (inR .i64 ((↑i : Int) + (1 : Int))) (.leaf (.back 0 [(1, .sl inp.length 1 (ratG inp)), (6, .ptr 2 0), (7, .osl 3 1 0 ops.length), (18, .sl ops.length 4 (opG ops)), (19, .int .i64 ops.length), (20, .int .i64 ((↑i : Int) + (1 : Int)))] [.box [.int .i64 n, .sl ops.length 4 (opG ops)], .dead, .box [.fn 24 [] [], .fn 17 [] [], .fn 27 [] [], .fn 31 [] []], .arr ops.length 1 (updG (ratG l) (0 + Int.toNat (↑i : Int)) 0 [.str n_2.1]), .box [.int .u8 (TOp.kind (List.getD ops (Int.toNat (↑i : Int)) TOp.nil)), .int .i64 (TOp.a (List.getD ops (Int.toNat (↑i : Int)) TOp.nil)), .int .i64 (TOp.b (List.getD ops (Int.toNat (↑i : Int)) TOp.nil)), .str (TOp.rat (List.getD ops (Int.toNat (↑i : Int)) TOp.nil))], .box [.fn 24 [] [], .fn 17 [] [], .fn 27 [] [], .fn 31 [] []]]))))) (.ite (decide (TOp.kind (List.getD ops (Int.toNat (↑i : Int)) TOp.nil) = (4 : Int))) (.ex (fun (x : List UInt8 × List UInt8) => eqL [AV.str (List.getD l (0 + Int.toNat (TOp.a (List.getD ops (Int.toNat (↑i : Int)) TOp.nil))) []), AV.str (List.getD l (0 + Int.toNat (TOp.b (List.getD ops (Int.toNat (↑i : Int)) TOp.nil))) [])] [AV.str x.1, AV.str x.2] ∧ x.1.length < 2305843009213693952 ∧ x.2.length < 2305843009213693952) fun n_1 => .all (fun (r : List UInt8 × Int) => r = subR n_1.1 n_1.2) fun n_2 => .ite (!decide (n_2.2 = 0)) (.leaf (.ret [.nils, .int .i64 n_2.2] [.box [.int .i64 n, .sl ops.length 4 (opG ops)], .dead, .box [.fn 24 [] [], .fn 17 [] [], .fn 27 [] [], .fn 31 [] []], .arr ops.length 1 (ratG l), .box [.int .u8 (TOp.kind (List.getD ops (Int.toNat (↑i : Int)) TOp.nil)), .int .i64 (TOp.a (List.getD ops (Int.toNat (↑i : Int)) TOp.nil)), .int .i64 (TOp.b (List.getD ops (Int.toNat (↑i : Int)) TOp.nil)), .str (TOp.rat (List.getD ops (Int.toNat (↑i : Int)) TOp.nil))], .box [.fn 24 [] [], .fn 17 [] [], .fn 27 [] [], .fn 31 [] []]])) (.side ((0 : Int) ≤ i ∧ (↑i : Int) < ops.length) (.side (inR .i64 ((↑i : Int) + (1 : Int))) (.leaf (.back 0 [(1, .sl inp.length 1 (ratG inp)), (6, .ptr 2 0), (7, .osl 3 1 0 ops.length), (18, .sl ops.length 4 (opG ops)), (19, .int .i64 ops.length), (20, .int .i64 ((↑i : Int) + (1 : Int)))] [.box [.int .i64 n, .sl ops.length 4 (opG ops)], .dead, .box [.fn 24 [] [], .fn 17 [] [], .fn 27 [] [], .fn 31 [] []], .arr ops.length 1 (updG (ratG l) (0 + Int.toNat (↑i : Int)) 0 [.str n_2.1]), .box [.int .u8 (TOp.kind (List.getD ops (Int.toNat (↑i : Int)) TOp.nil)), .int .i64 (TOp.a (List.getD ops (Int.toNat (↑i : Int)) TOp.nil)), .int .i64 (TOp.b (List.getD ops (Int.toNat (↑i : Int)) TOp.nil)), .str (TOp.rat (List.getD ops (Int.toNat (↑i : Int)) TOp.nil))], .box [.fn 24 [] [], .fn 17 [] [], .fn 27 [] [], .fn 31 [] []]]))))) (.ite (decide (TOp.kind (List.getD ops (Int.toNat (↑i : Int)) TOp.nil) = (5 : Int))) (.ex (fun (x : List UInt8 × List UInt8) => eqL [AV.str (List.getD l (0 + Int.toNat (TOp.a (List.getD ops (Int.toNat (↑i : Int)) TOp.nil))) []), AV.str (List.getD l (0 + Int.toNat (TOp.b (List.getD ops (Int.toNat (↑i : Int)) TOp.nil))) [])] [AV.str x.1, AV.str x.2] ∧ x.1.length < 2305843009213693952 ∧ x.2.length < 2305843009213693952) fun n_1 => .all (fun (r : List UInt8 × Int) => r = mulR n_1.1 n_1.2) fun n_2 => .ite (!decide (n_2.2 = 0)) (.leaf (.ret [.nils, .int .i64 n_2.2] [.box [.int .i64 n, .sl ops.length 4 (opG ops)], .dead, .box [.fn 24 [] [], .fn 17 [] [], .fn 27 [] [], .fn 31 [] []], .arr ops.length 1 (ratG l), .box [.int .u8 (TOp.kind (List.getD ops (Int.toNat (↑i : Int)) TOp.nil)), .int .i64 (TOp.a (List.getD ops (Int.toNat (↑i : Int)) TOp.nil)), .int .i64 (TOp.b (List.getD ops (Int.toNat (↑i : Int)) TOp.nil)), .str (TOp.rat (List.getD ops (Int.toNat (↑i : Int)) TOp.nil))], .box [.fn 24 [] [], .fn 17 [] [], .fn 27 [] [], .fn 31 [] []]])) (.side ((0 : Int) ≤ i ∧ (↑i : Int) < ops.length) (.side (inR .i64 ((↑i : Int) + (1 : Int))) (.leaf (.back 0 [(1, .sl inp.length 1 (ratG inp)), (6, .ptr 2 0), (7, .osl 3 1 0 ops.length), (18, .sl ops.length 4 (opG ops)), (19, .int .i64 ops.length), (20, .int .i64 ((↑i : Int) + (1 : Int)))] [.box [.int .i64 n, .sl ops.length 4 (opG ops)], .dead, .box [.fn 24 [] [], .fn 17 [] [], .fn 27 [] [], .fn 31 [] []], .arr ops.length 1 (updG (ratG l) (0 + Int.toNat (↑i : Int)) 0 [.str n_2.1]), .box [.int .u8 (TOp.kind (List.getD ops (Int.toNat (↑i : Int)) TOp.nil)), .int .i64 (TOp.a (List.getD ops (Int.toNat (↑i : Int)) TOp.nil)), .int .i64 (TOp.b (List.getD ops (Int.toNat (↑i : Int)) TOp.nil)), .str (TOp.rat (List.getD ops (Int.toNat (↑i : Int)) TOp.nil))], .box [.fn 24 [] [], .fn 17 [] [], .fn 27 [] [], .fn 31 [] []]]))))) (.ex (fun (x : List UInt8 × List UInt8) => eqL [AV.str (List.getD l (0 + Int.toNat (TOp.a (List.getD ops (Int.toNat (↑i : Int)) TOp.nil))) []), AV.str (List.getD l (0 + Int.toNat (TOp.b (List.getD ops (Int.toNat (↑i : Int)) TOp.nil))) [])] [AV.str x.1, AV.str x.2] ∧ x.1.length < 2305843009213693952 ∧ x.2.length < 2305843009213693952) fun n_1 => .all (fun (r : List UInt8 × Int) => r = divR n_1.1 n_1.2) fun n_2 => .ite (!decide (n_2.2 = 0)) (.leaf (.ret [.nils, .int .i64 n_2.2] [.box [.int .i64 n, .sl ops.length 4 (opG ops)], .dead, .box [.fn 24 [] [], .fn 17 [] [], .fn 27 [] [], .fn 31 [] []], .arr ops.length 1 (ratG l), .box [.int .u8 (TOp.kind (List.getD ops (Int.toNat (↑i : Int)) TOp.nil)), .int .i64 (TOp.a (List.getD ops (Int.toNat (↑i : Int)) TOp.nil)), .int .i64 (TOp.b (List.getD ops (Int.toNat (↑i : Int)) TOp.nil)), .str (TOp.rat (List.getD ops (Int.toNat (↑i : Int)) TOp.nil))], .box [.fn 24 [] [], .fn 17 [] [], .fn 27 [] [], .fn 31 [] []]])) (.side ((0 : Int) ≤ i ∧ (↑i : Int) < ops.length) (.side (inR .i64 ((↑i : Int) + (1 : Int))) (.leaf (.back 0 [(1, .sl inp.length 1 (ratG inp)), (6, .ptr 2 0), (7, .osl 3 1 0 ops.length), (18, .sl ops.length 4 (opG ops)), (19, .int .i64 ops.length), (20, .int .i64 ((↑i : Int) + (1 : Int)))] [.box [.int .i64 n, .sl ops.length 4 (opG ops)], .dead, .box [.fn 24 [] [], .fn 17 [] [], .fn 27 [] [], .fn 31 [] []], .arr ops.length 1 (updG (ratG l) (0 + Int.toNat (↑i : Int)) 0 [.str n_2.1]), .box [.int .u8 (TOp.kind (List.getD ops (Int.toNat (↑i : Int)) TOp.nil)), .int .i64 (TOp.a (List.getD ops (Int.toNat (↑i : Int)) TOp.nil)), .int .i64 (TOp.b (List.getD ops (Int.toNat (↑i : Int)) TOp.nil)), .str (TOp.rat (List.getD ops (Int.toNat (↑i : Int)) TOp.nil))], .box [.fn 24 [] [], .fn 17 [] [], .fn 27 [] [], .fn 31 [] []]]))))))))))))) (.leaf (.ret [.osl 3 1 0 ops.length, .int .i64 0] [.box [.int .i64 n, .sl ops.length 4 (opG ops)], .dead, .box [.fn 24 [] [], .fn 17 [] [], .fn 27 [] [], .fn 31 [] []], .arr ops.length 1 (ratG l)]))) (by kernel_rfl) ?_
 simp only [Tree.holds, ze, inR, lo, hi, Int.toNat_natCast]
 refine ⟨fun hlt => ?_, fun hge => ?_⟩
 ·have hlt : i < ops.length := by have := of_decide_eq_true hlt; omega
  have hok := Z7 c5 hlt
  rw [Qz hlt] at hlr
  obtain ⟨o, ho⟩ : ∃ o, ops.getD i TOp.nil = o := ⟨_, rfl⟩
  rw [ho] at hlr hok
  simp only [ho, Nat.zero_add]
  simp only at hok
  refine ⟨by omega, fun _ => ?_⟩
  have hst := uX hqi hn hlq (by rw [hll]; exact hok)
  have bad : ∀ (e : Int) (h : Heap), (zB inp l o).2 = e → e ≠ 0 → RetR Vc 0 (upQ Q) [.nils, .int .i64 e] h := by
   rintro e h rfl hne
   rw [if_pos hne] at hlr
   rw [← hlr] at hq
   exact Zh _ h hq
  have good : ∀ (v : List UInt8) (b : Heap), (zB inp l o).2 = 0 → (zB inp l o).1 = v → ∃ x' : {p : Nat × List (List UInt8) // p.1 ≤ ops.length ∧ p.2.length = p.1 ∧ allQ p.2 ∧ runF inp (ops.drop p.1) p.2 = runF inp ops []}, ops.length - x'.1.1 < ops.length - i ∧
    LeK 0 Tryz.f38.ntmps [(1, ratS inp), (6, .ptr 2 0), (7, .osl 3 1 0 ops.length), (18, opS ops), (19, .int .i64 (ops.length : Int)), (20, .int .i64 ((i : Int) + 1))] ([.box [.int .i64 n, opS ops], .dead, .box [.fn 24 [] [], .fn 17 [] [], .fn 27 [] [], .fn 31 [] []], .arr ops.length 1 (updG (ratG l) i 0 [.str v])] ++ b) (SBr inp ops x'.1.1) (HBr n ops x'.1.2) := by
   rintro v b he rfl
   rw [if_neg (by simp [he])] at hlr
   refine ⟨⟨(i + 1, l ++ [(zB inp l o).1]), hlt, by simp [hll], um hlq (hst he), hlr⟩, by show ops.length - (i + 1) < ops.length - i; omega, ?_, ?_, rfl, Nat.zero_le _⟩
   ·simp [SBr, ratS, opS, zc]
   ·simp only [HBr, List.cons_append]
    refine ⟨by simp [opS, zc], trivial, by simp, ⟨rfl, rfl, ?_⟩, by cases b <;> trivial⟩
    exact zct hll
  have la := Xz hlq
  refine ⟨fun k1 => ?_, fun k1 => ⟨fun k2 => ?_, fun k2 => ?_⟩⟩
  ·have k1 := of_decide_eq_true k1
   have h1 := jT hok
   refine ⟨by omega, fun _ => ⟨by omega, fun _ => ⟨by omega, fun _ => ?_⟩⟩⟩
   rw [if_pos trivial]
   exact good _ [_] (by unfold zB; rw [if_pos k1]) (by unfold zB; rw [if_pos k1])
  ·have k1 := of_decide_eq_false k1
   have k2 := of_decide_eq_true k2
   refine ⟨by omega, fun _ => ⟨by omega, fun _ => ?_⟩⟩
   rw [if_pos trivial]
   exact good _ [_] (by unfold zB; rw [if_neg k1, if_pos k2]) (by unfold zB; rw [if_neg k1, if_pos k2])
  ·have k1 := of_decide_eq_false k1
   have k2 := of_decide_eq_false k2
   have h1 := jT hok
   have hv : zB inp l o = arR o.kind (l.getD o.a.toNat []) (l.getD o.b.toNat []) := by unfold zB; rw [if_neg k1, if_neg k2]
   have fin : ∀ (r : List UInt8 × Int) (h b : Heap), r = arR o.kind (l.getD o.a.toNat []) (l.getD o.b.toNat []) → ((!decide (r.2 = 0)) = true → RetR Vc 0 (upQ Q) [.nils, .int .i64 r.2] h) ∧ ((!decide (r.2 = 0)) = false → (0 ≤ (i : Int) ∧ (i : Int) < ops.length) ∧ (0 ≤ (i : Int) ∧ (i : Int) < ops.length → (-9223372036854775808 ≤ (i : Int) + 1 ∧ (i : Int) + 1 ≤ 9223372036854775807) ∧ (-9223372036854775808 ≤ (i : Int) + 1 ∧ (i : Int) + 1 ≤ 9223372036854775807 → if True then
     ∃ x' : {p : Nat × List (List UInt8) // p.1 ≤ ops.length ∧ p.2.length = p.1 ∧ allQ p.2 ∧ runF inp (ops.drop p.1) p.2 = runF inp ops []}, ops.length - x'.1.1 < ops.length - i ∧
    LeK 0 Tryz.f38.ntmps [(1, ratS inp), (6, .ptr 2 0), (7, .osl 3 1 0 ops.length), (18, opS ops), (19, .int .i64 (ops.length : Int)), (20, .int .i64 ((i : Int) + 1))] ([.box [.int .i64 n, opS ops], .dead, .box [.fn 24 [] [], .fn 17 [] [], .fn 27 [] [], .fn 31 [] []], .arr ops.length 1 (updG (ratG l) i 0 [.str r.1])] ++ b) (SBr inp ops x'.1.1) (HBr n ops x'.1.2) else False))) := by
    rintro r h b hr
    rw [← hv] at hr
    refine ⟨fun h1 => ?_, fun h1 => ⟨by omega, fun _ => ⟨by omega, fun _ => ?_⟩⟩⟩
    ·exact bad _ _ (by rw [hr]) (by simpa using h1)
    ·rw [if_pos trivial]
     exact good _ b (by rw [← hr]; simpa using h1) (by rw [hr])
   refine ⟨by omega, fun _ => ⟨by omega, fun _ => ?_⟩⟩
   have l1 := la o.a.toNat
   have l2 := la o.b.toNat
   refine ⟨fun k3 => ?_, fun k3 => ⟨fun k4 => ?_, fun k4 => ⟨fun k5 => ?_, fun k5 => ?_⟩⟩⟩
   all_goals
    refine ⟨(l.getD o.a.toNat [], l.getD o.b.toNat []), ⟨⟨rfl, rfl, trivial⟩, by show (l.getD o.a.toNat []).length < _; omega, by show (l.getD o.b.toNat []).length < _; omega⟩, ⟨_, rfl⟩, ?_⟩
    rintro _ rfl
   ·have k3 := of_decide_eq_true k3
    exact fin _ _ [_, _] (by unfold arR; rw [if_pos k3])
   ·have k3 := of_decide_eq_false k3
    have k4 := of_decide_eq_true k4
    exact fin _ _ [_, _] (by unfold arR; rw [if_neg k3, if_pos k4])
   ·have k3 := of_decide_eq_false k3
    have k4 := of_decide_eq_false k4
    have k5 := of_decide_eq_true k5
    exact fin _ _ [_, _] (by unfold arR; rw [if_neg k3, if_neg k4, if_pos k5])
   ·have k3 := of_decide_eq_false k3
    have k4 := of_decide_eq_false k4
    have k5 := of_decide_eq_false k5
    exact fin _ _ [_, _] (by unfold arR; rw [if_neg k3, if_neg k4, if_neg k5])
 ·have hge : i = ops.length := by have := of_decide_eq_false hge; omega
  subst hge
  rw [WI] at hlr
  rw [← hlr] at hq
  simp only at hq
  rw [hll] at hq
  refine RetR.outs [3] rfl rfl (.inl hq) (fun _ => ⟨?_, ?_⟩) ?_ ?_ rfl
  ·simp [resV, new2, new1, new0, zC, zX]
  ·simp only [List.mem_cons, List.not_mem_nil, or_false, forall_eq]
   exact Zb (zc _ _ _)
  ·simp [resV, exp2, exp1, exp0, zC, ren0, eqA2, eqL1]
  ·exact ⟨⟨rfl, rfl, zc _ _ _⟩, trivial⟩
end Go.Proofs.Tryz
end
