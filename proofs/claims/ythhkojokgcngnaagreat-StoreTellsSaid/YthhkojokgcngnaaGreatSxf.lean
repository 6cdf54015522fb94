/- Part 6 of the proof. -/
import Derived.Test.YthhkojokgcngnaaGreatSxe
set_option linter.unusedVariables false
set_option linter.unusedSimpArgs false
set_option linter.unusedSectionVars false

/- Rationals: splitting and checking. -/
section
set_option maxRecDepth 100000
open Go Go.Sx Go.Proofs Go.Nov
namespace Go.Proofs.Tryz
attribute [local simp] eqKV eqA eqA0 eqH eqB eqL eqL0
noncomputable def K77 : List Go.Sx.Item := [.code (Tryz.f77.body.getD .skip)]
theorem uR (s : List UInt8) : Lib.indexByte s 47 = if z6 s < s.length then (z6 s : Int) else -1 := by
 induction s with
 | nil => rfl
 | cons c s ih =>
  simp only [Lib.indexByte, z6, List.findIdx_cons]
  cases h : (c == 47) with
  | true => simp
  | false =>
   simp only [Bool.false_eq_true, if_false, ih, cond_false, List.length_cons]
   show _ = if z6 s + 1 < s.length + 1 then ((z6 s + 1 : Nat) : Int) else -1
   by_cases h2 : z6 s < s.length
   ·rw [if_pos h2, if_neg (by simp), if_pos (by omega)]; omega
   ·rw [if_neg h2, if_pos (by rfl), if_neg (by omega)]
def Ky : Ctr := ctrP true (fun s : List UInt8 => [.str s, .str [47]]) (fun s => True) (fun s r => r = if z6 s < s.length then (z6 s : Int) else -1) (fun _ (r : Int) => (.int .i64 r, []))
theorem zar : ze Tryz.prog 114 Ky := by
 intro args hc Q hq _
 simp only [Ky, ctrP] at hq
 split at hq
 ·obtain ⟨s, ⟨h1, _⟩, _, h3⟩ := hq
  have hq := h3 _ rfl
  simp only [Tree.holds] at hq
  refine qq.le h1 ?_
  intro O w σ vals hg hh hr
  simp only [RepL, Rep] at hr
  obtain ⟨v1, r1, rfl, rfl, v2, r2, rfl, rfl, rfl⟩ := hr
  refine .inl ⟨enters_of Tryz.func114 (by kernel_rfl) rfl .., ?_⟩
  refine (Tryz.Kv ⟨s.toArray⟩ 47 w).mono ?_
  rintro e w' ⟨rfl, rfl⟩
  have hx := uR s
  have h0 : σ = [] := List.length_eq_zero_iff.1 hh.len
  subst h0
  refine ⟨_, rfl, _, [], [], hq, ?_, ⟨rfl, fun i j e f a b h => by simp at h, fun i e a h => by simp at h, fun i e b h => by simp at h⟩, hg, Nat.le_refl _, Hold.refl _ _ _, Ext.refl _ _⟩
  simp only [Rep]
  rw [← hx]
 ·exact hq.elim
def cutC : Ctr := ctrP true (fun s : List UInt8 => [.str s, .str [47]]) (fun s => s.length < 2 ^ 62) (fun s r => r = cutR s) (fun _ r => (.tup [.str r.1, .str r.2.1, .bool r.2.2], []))
noncomputable def GC1 : Nat → Option Ctr := fun f => if f = 114 then some (Ky) else none
theorem zf3 : ∀ g c, GC1 g = some c → ze Tryz.prog g c := okIf zar (zn)
theorem zd5 : ze Tryz.prog 100 cutC := by
 refine zh (fn := Tryz.f100) (c := Tryz.f100.body.getD .skip) rfl rfl rfl fun s hs O w0 Q hq => ?_
 replace hq := hq _ rfl
 refine zc.run hmix zf3 [] 400 (T := .ex (fun (x : List UInt8) => eqL [AV.str s, AV.str [(47 : UInt8)]] [AV.str x, AV.str [(47 : UInt8)]] ∧ True) fun n => .all (fun (r : Int) => r = if z6 n < n.length then (↑(z6 n) : Int) else (-1 : Int)) fun n => .ite (decide ((0 : Int) ≤ n)) (.side ((0 : Int) ≤ n ∧ n ≤ (↑s.length : Int)) (.side (inR .i64 (n + (1 : Int))) (.side ((0 : Int) ≤ n + (1 : Int) ∧ n + (1 : Int) ≤ s.length) (.leaf (.ret [.str (List.drop 0 (List.take (Int.toNat n) s)), .str (List.drop (Int.toNat (n + (1 : Int))) (List.take s.length s)), .bool true] []))))) (.leaf (.ret [.str s, .str (Array.toList #[]), .bool false] []))) (by kernel_rfl) ?_
 simp only [Tree.holds, zd, inR, lo, hi]
 refine ⟨s, ⟨by simp, trivial⟩, ⟨_, rfl⟩, ?_⟩
 rintro _ rfl
 by_cases h : z6 s < s.length
 ·simp only [if_pos h]
  rw [Ju h] at hq
  refine ⟨fun _ => ⟨by omega, fun _ => ⟨by omega, fun _ => ⟨by omega, fun _ => ?_⟩⟩⟩, fun hn => ?_⟩
  ·refine RetR.scal hq rfl ?_
   simp [resV]
  ·have := of_decide_eq_false hn; omega
 ·simp only [if_neg h]
  rw [VH h] at hq
  refine ⟨fun hn => ?_, fun _ => RetR.scal hq rfl (by simp [resV])⟩
  have := of_decide_eq_true hn; omega
noncomputable def GC2 : Nat → Option Ctr := fun f => if f = 100 then some (cutC) else none
theorem zg3 : ∀ g c, GC2 g = some c → ze Tryz.prog g c := okIf zd5 (zn)
theorem zf1 : ze Tryz.prog 83 cutC := by
 refine zh (fn := Tryz.f83) (c := Tryz.f83.body.getD .skip) rfl rfl rfl fun s hs O w0 Q hq => ?_
 replace hq := hq _ rfl
 refine zc.run hmix zg3 [] 400 (T := .ex (fun (x : List UInt8) => eqL [AV.str s, AV.str [(47 : UInt8)]] [AV.str x, AV.str [(47 : UInt8)]] ∧ x.length < 4611686018427387904) fun n => .all (fun (r : List UInt8 × List UInt8 × Bool) => r = cutR n) fun n => .leaf (.ret [.str n.1, .str n.2.1, .bool n.2.2] [])) (by kernel_rfl) ?_
 simp only [Tree.holds, zd, inR, lo, hi]
 refine ⟨s, ⟨by simp, hs⟩, ⟨_, rfl⟩, ?_⟩
 rintro _ rfl
 exact RetR.scal hq rfl (by simp [resV])
def zbk : Ctr := ctrP true (fun s : List UInt8 => [.str s]) (fun s => s.length < 2 ^ 62) (fun s r => r = cutR s) (fun _ r => (.tup [.str r.1, .str r.2.1, .bool r.2.2], []))
noncomputable def GC3 : Nat → Option Ctr := fun f => if f = 83 then some (cutC) else if f = 64 then some (Ql) else none
theorem Uw : ∀ g c, GC3 g = some c → ze Tryz.prog g c := okIf zf1 (okIf ZR (zn))
theorem za8 : ze Tryz.prog 62 zbk := by
 refine zh (fn := Tryz.f62) (c := Tryz.f62.body.getD .skip) rfl rfl rfl fun s hs O w0 Q hq => ?_
 replace hq := hq _ rfl
 refine zc.run hmix Uw [] 400 (T := .ex (fun (x : List UInt8) => eqL [AV.str s, AV.str (Array.toList #[(47 : UInt8)])] [AV.str x, AV.str [(47 : UInt8)]] ∧ x.length < 4611686018427387904) fun n => .all (fun (r : List UInt8 × List UInt8 × Bool) => r = cutR n) fun n => .leaf (.ret [.str n.1, .str n.2.1, .bool n.2.2] [])) (by kernel_rfl) ?_
 simp only [Tree.holds, zd, inR, lo, hi]
 refine ⟨s, ⟨by simp, hs⟩, ⟨_, rfl⟩, ?_⟩
 rintro _ rfl
 exact RetR.scal hq rfl (by simp [resV])
def zeq : Ctr := ctrP true (fun s : List UInt8 => [.str s]) (fun s => s.length < 2 ^ 62) (fun s r => r = if errI s = 12 then 12 else 0) (fun _ (r : Int) => (.int .i64 r, []))
theorem zcx : ze Tryz.prog 63 zeq := by
 refine zh (fn := Tryz.f63) (c := Tryz.f63.body.getD .skip) rfl rfl rfl fun s hs O w0 Q hq => ?_
 replace hq := hq _ rfl
 refine zc.run hmix Uw [] 400 (T := .ex (fun (x : List UInt8) => eqL [AV.str s] [AV.str x] ∧ x.length < 4611686018427387904) fun n => .all (fun (r : Int) => r = errI n) fun n => .ite (!decide (n = 14)) (.leaf (.ret [.int .i64 n] [])) (.leaf (.ret [.int .i64 0] []))) (by kernel_rfl) ?_
 simp only [Tree.holds, zd, inR, lo, hi]
 refine ⟨s, ⟨by simp, hs⟩, ⟨_, rfl⟩, ?_⟩
 rintro _ rfl
 rcases jH s with h | h | h <;> simp only [h] at hq ⊢
 all_goals
  refine ⟨fun h => ?_, fun h => ?_⟩
  all_goals first
   | (exfalso; revert h; decide)
   | exact RetR.scal hq rfl (by simp [resV])
def Zd : Ctr := ctrP true (fun s : List UInt8 => [.str s]) (fun s => s.length < 2 ^ 62) (fun s r => r = errR s) (fun _ (r : Int) => (.int .i64 r, []))
noncomputable def GC4 : Nat → Option Ctr := fun f => if f = 62 then some (zbk) else if f = 63 then some (zeq) else if f = 64 then some (Ql) else if f = 65 then some (gcdC) else none
theorem zez : ∀ g c, GC4 g = some c → ze Tryz.prog g c := okIf za8 (okIf zcx (okIf ZR (okIf zey (zn))))
theorem ur : ze Tryz.prog 37 Zd := by
 refine zh (fn := Tryz.f37) (c := Tryz.f37.body.getD .skip) rfl rfl rfl fun s hs O w0 Q hq => ?_
 replace hq := hq _ rfl
 refine zc.run hmix zez [] 400 (T := .ex (fun (x : List UInt8) => eqL [AV.str s] [AV.str x] ∧ x.length < 4611686018427387904) fun n => .all (fun (r : List UInt8 × List UInt8 × Bool) => r = cutR n) fun n => .ex (fun (x : List UInt8) => eqL [AV.str n.1] [AV.str x] ∧ x.length < 4611686018427387904) fun n_1 => .all (fun (r : Int) => r = if errI n_1 = 12 then (12 : Int) else (0 : Int)) fun n_2 => .ex (fun (x : List UInt8) => (!decide (n_2 = 0)) = false ∧ n.2.2 = true → eqL [AV.str n.2.1] [AV.str x] ∧ x.length < 4611686018427387904) fun n_3 => .all (fun (x : Int) => (!decide (n_2 = 0)) = false ∧ n.2.2 = true → x = if errI n_3 = 12 then (12 : Int) else (0 : Int)) fun n_4 => .side (((!decide (n_2 = 0)) = false ∧ n.2.2 = true) ∧ (!decide (n_4 = 0)) = false → (0 : Int) ≤ 0 ∧ (0 : Int) < n.2.1.length) (.ite (bif !decide (n_2 = 0) then true else bif n.2.2 then bif bif bif !decide (n_4 = 0) then true else decide ((↑(UInt8.toNat (List.getD n.2.1 0 (0 : UInt8))) : Int) = 45) then true else decide (n.2.1 = Array.toList #[(48 : UInt8)]) then true else decide (n.2.1 = Array.toList #[(49 : UInt8)]) else false) (.leaf (.ret [.int .i64 12] [])) (.ex (fun (x : List UInt8) => eqL [AV.str n.1] [AV.str x] ∧ x.length < 4611686018427387904) fun n_5 => .all (fun (r : Int) => r = errI n_5) fun n_6 => .ex (fun (x : List UInt8) => (!decide (n_6 = 0)) = false ∧ n.2.2 = true → eqL [AV.str n.2.1] [AV.str x] ∧ x.length < 4611686018427387904) fun n_7 => .all (fun (x : Int) => (!decide (n_6 = 0)) = false ∧ n.2.2 = true → x = errI n_7) fun n_8 => .ite (bif !decide (n_6 = 0) then true else bif n.2.2 then !decide (n_8 = 0) else false) (.leaf (.ret [.int .i64 14] [])) (.ite n.2.2 (.ex (fun (x : List UInt8 × List UInt8) => eqL [AV.str n.1, AV.str n.2.1] [AV.str x.1, AV.str x.2] ∧ x.1.length < 4611686018427387904 ∧ x.2.length < 4611686018427387904) fun n => .all (fun (r : List UInt8 × Int) => r = gcdR n.1 n.2) fun n => .ite (!decide (n.1 = Array.toList #[(49 : UInt8)])) (.leaf (.ret [.int .i64 12] [])) (.leaf (.ret [.int .i64 0] []))) (.leaf (.ret [.int .i64 0] [])))))) (by kernel_rfl) ?_
 simp only [Tree.holds, zd, inR, lo, hi]
 refine ⟨s, ⟨by simp, hs⟩, ⟨_, rfl⟩, ?_⟩
 rintro _ rfl
 have hlen := Xg s
 have hno : (cutR s).2.2 = false → (cutR s).1 = s := by
  intro h
  unfold cutR at h ⊢
  split at h
  ·cases h
  ·rename_i hn; rw [if_neg hn]
 simp only [errR] at hq
 generalize cutR s = c at hq hlen hno ⊢
 obtain ⟨n, d, f⟩ := c
 simp only at hq hlen hno ⊢
 refine ⟨n, ⟨by simp, by omega⟩, ⟨_, rfl⟩, ?_⟩
 rintro _ rfl
 refine ⟨d, fun _ => ⟨by simp, by omega⟩, ⟨_, fun _ => rfl⟩, ?_⟩
 intro fd hfd
 cases f with
 | false =>
  have hn := hno rfl
  subst hn
  rw [if_neg (by decide)] at hq
  refine ⟨fun h => by simp at h, fun _ => ⟨fun h => ?_, fun h => ?_⟩⟩
  ·rcases jH n with e | e | e <;> rw [e] at hq h
   ·simp at h
   ·exact RetR.scal hq rfl (by simp [resV])
   ·simp at h
  ·have hn12 : errI n ≠ 12 := by
    intro e; rw [e] at h; simp at h
   refine ⟨n, ⟨by simp, by omega⟩, ⟨_, rfl⟩, ?_⟩
   rintro _ rfl
   refine ⟨d, fun _ => ⟨by simp, by omega⟩, ⟨_, fun _ => rfl⟩, ?_⟩
   intro fd2 _
   refine ⟨fun h => ?_, fun h => ⟨fun h => (by cases h), fun _ => ?_⟩⟩
   ·rcases jH n with e | e | e
    ·rw [e] at h; simp at h
    ·exact absurd e hn12
    ·rw [e] at hq; exact RetR.scal hq rfl (by simp [resV])
   ·rcases jH n with e | e | e
    ·rw [e] at hq; exact RetR.scal hq rfl (by simp [resV])
    ·exact absurd e hn12
    ·rw [e] at h; simp at h
 | true =>
  rw [if_pos rfl] at hq
  by_cases hn : errI n = 12
  ·rw [if_pos (.inl hn)] at hq
   simp only [hn]
   refine ⟨fun h => by simp at h, fun _ => ⟨fun _ => RetR.scal hq rfl (by simp [resV]), fun h => by simp at h⟩⟩
  ·rw [if_neg hn] at hfd ⊢
   have hfd := hfd ⟨by simp, rfl⟩
   subst hfd
   by_cases hd : errI d = 12
   ·rw [if_pos (.inr (.inl hd))] at hq
    rw [if_pos hd]
    refine ⟨fun h => by simp at h, fun _ => ⟨fun _ => RetR.scal hq rfl (by simp [resV]), fun h => by simp at h⟩⟩
   ·rw [if_neg hd]
    have hd0 : d ≠ [] := by rintro rfl; exact hd zbb
    have hneg := Y1 hd0
    have hneg2 : decide (((d.getD 0 0).toNat : Int) = 45) = negI d := by
     rw [hneg]
     by_cases h : d.getD 0 0 = 45
     ·rw [h]; rfl
     ·rw [decide_eq_false h]
      refine decide_eq_false fun h2 => h (Z4 ?_)
      rw [h2]; rfl
    rw [hneg2]
    refine ⟨fun _ => by have := List.length_pos_iff.2 hd0; omega, fun _ => ⟨fun h => ?_, fun h => ?_⟩⟩
    ·have : negI d = true ∨ d = [48] ∨ d = [49] := by
      revert h
      cases negI d <;> simp
     rw [if_pos (.inr (.inr this))] at hq
     exact RetR.scal hq rfl (by simp [resV])
    ·have : ¬ (errI n = 12 ∨ errI d = 12 ∨ negI d = true ∨ d = [48] ∨ d = [49]) := by
      revert h
      cases negI d <;> simp [hn, hd]
     rw [if_neg this] at hq
     refine ⟨n, ⟨by simp, by omega⟩, ⟨_, rfl⟩, ?_⟩
     rintro _ rfl
     refine ⟨d, fun _ => ⟨by simp, by omega⟩, ⟨_, fun _ => rfl⟩, ?_⟩
     intro ed hed
     by_cases hn0 : errI n = 0
     ·have hed := hed ⟨by simp [hn0], rfl⟩
      subst hed
      by_cases hd0 : errI d = 0
      ·rw [if_neg (by simp [hn0, hd0])] at hq
       refine ⟨fun h => by simp [hn0, hd0] at h, fun _ => ⟨fun _ => ?_, fun h => by cases h⟩⟩
       refine ⟨(n, d), ⟨by simp, by simp only; omega, by simp only; omega⟩, ⟨_, rfl⟩, ?_⟩
       rintro _ rfl
       refine ⟨fun h => ?_, fun h => ?_⟩
       ·rw [if_pos (by simpa using h)] at hq
        exact RetR.scal hq rfl (by simp [resV])
       ·rw [if_neg (by simpa using h)] at hq
        exact RetR.scal hq rfl (by simp [resV])
      ·rw [if_pos (.inr hd0)] at hq
       refine ⟨fun _ => RetR.scal hq rfl (by simp [resV]), fun h => by simp [hn0, hd0] at h⟩
     ·rw [if_pos (.inl hn0)] at hq
      refine ⟨fun _ => RetR.scal hq rfl (by simp [resV]), fun h => by simp [hn0] at h⟩
def VE : Ctr := ctrP true (fun s : List UInt8 => [.str s]) (fun s => s.length < 2 ^ 62) (fun s r => r = if z6 s < s.length then (z6 s : Int) else -1) (fun _ (r : Int) => (.int .i64 r, []))
def SSl (s : List UInt8) (i : Nat) : KV := [(0, .str s), (3, .int .i64 (i : Int))]
theorem Vj : ze Tryz.prog 77 VE := by
 refine zh (fn := Tryz.f77) (c := Tryz.f77.body.getD .skip) rfl rfl rfl fun s hs O w0 Q hq => ?_
 replace hq := hq _ rfl
 refine zc.run hmix zr [0, 3] 400 (T := .leaf (.loop (Prod.fst (lps K77 0)) (Prod.snd (lps K77 0)) [(0, .str s), (3, .int .i64 0)] [])) (by kernel_rfl) ?_
 simp only [Tree.holds, zd, inR, lo, hi]
 refine zc.loop (ι := {i : Nat // i ≤ s.length ∧ ∀ j, j < i → s.getD j 0 ≠ 47}) (fun i => SSl s i.1) (fun _ => []) (fun i => s.length - i.1) ⟨0, Nat.zero_le _, fun j hj => by omega⟩ 0 ?_ ?_ (by kernel_rfl)
 ·exact ⟨by simp [SSl], by simp, by kernel_rfl, Nat.zero_le _⟩
 ·rintro ⟨i, hil, hib⟩
  refine zc.run hmix zr [0, 3] 400 (T := .ite (decide ((↑i : Int) < s.length)) (.side ((0 : Int) ≤ i ∧ (↑i : Int) < s.length) (.ite (decide ((↑(UInt8.toNat (List.getD s (Int.toNat (↑i : Int)) (0 : UInt8))) : Int) = 47)) (.leaf (.ret [.int .i64 i] [])) (.side (inR .i64 ((↑i : Int) + (1 : Int))) (.leaf (.back 0 [(0, .str s), (3, .int .i64 ((↑i : Int) + (1 : Int)))] []))))) (.leaf (.ret [.int .i64 (-1 : Int)] []))) (by kernel_rfl) ?_
  simp only [Tree.holds, zd, inR, lo, hi, Int.toNat_natCast]
  refine ⟨fun hlt => ?_, fun hge => ?_⟩
  ·have hlt : i < s.length := by have := of_decide_eq_true hlt; omega
   refine ⟨by omega, fun _ => ⟨fun h => ?_, fun h => ⟨by omega, fun _ => ?_⟩⟩⟩
   ·have h : s.getD i 0 = 47 := Z4 (of_decide_eq_true h)
    have e := UN hlt h hib
    rw [if_pos (by omega), e] at hq
    exact RetR.scal hq rfl (by simp [resV])
   ·have h : s.getD i 0 ≠ 47 := by
     intro h2
     exact of_decide_eq_false h (by rw [h2]; rfl)
    rw [if_pos trivial]
    refine ⟨⟨i + 1, hlt, fun j hj => ?_⟩, by show s.length - (i + 1) < s.length - i; omega, by simp [SSl], by simp, by kernel_rfl, Nat.zero_le _⟩
    rcases Nat.lt_or_ge j i with h1 | h1
    ·exact hib j h1
    ·have : j = i := by omega
     rw [this]; exact h
  ·have hge : i = s.length := by have := of_decide_eq_false hge; omega
   subst hge
   have e := VD hib
   rw [if_neg (by omega)] at hq
   exact RetR.scal hq rfl (by simp [resV])
def WO : Ctr := ctrP true (fun s : List UInt8 => [.str s]) (fun s => s.length < 2 ^ 62) (fun s r => r = ((cutR s).1, if (cutR s).2.2 then (cutR s).2.1 else [49])) (fun _ r => (.tup [.str r.1, .str r.2], []))
noncomputable def GQ1 : Nat → Option Ctr := fun f => if f = 77 then some (VE) else none
theorem zf4 : ∀ g c, GQ1 g = some c → ze Tryz.prog g c := okIf Vj (zn)
theorem Kk : ze Tryz.prog 75 WO := by
 refine zh (fn := Tryz.f75) (c := Tryz.f75.body.getD .skip) rfl rfl rfl fun s hs O w0 Q hq => ?_
 replace hq := hq _ rfl
 refine zc.run hmix zf4 [] 400 (T := .ex (fun (x : List UInt8) => eqL [AV.str s] [AV.str x] ∧ x.length < 4611686018427387904) fun n => .all (fun (r : Int) => r = if z6 n < n.length then (↑(z6 n) : Int) else (-1 : Int)) fun n => .ite (decide (n < 0)) (.leaf (.ret [.str s, .str (Array.toList #[(49 : UInt8)])] [])) (.side ((0 : Int) ≤ n ∧ n ≤ (↑s.length : Int)) (.side (inR .i64 (n + (1 : Int))) (.side ((0 : Int) ≤ n + (1 : Int) ∧ n + (1 : Int) ≤ s.length) (.leaf (.ret [.str (List.drop 0 (List.take (Int.toNat n) s)), .str (List.drop (Int.toNat (n + (1 : Int))) (List.take s.length s))] [])))))) (by kernel_rfl) ?_
 simp only [Tree.holds, zd, inR, lo, hi]
 refine ⟨s, ⟨by simp, hs⟩, ⟨_, rfl⟩, ?_⟩
 rintro _ rfl
 by_cases h : z6 s < s.length
 ·simp only [if_pos h]
  rw [Ju h] at hq
  refine ⟨fun hn => ?_, fun hn => ?_⟩
  ·have := of_decide_eq_true hn; omega
  ·refine ⟨by omega, fun _ => ⟨by omega, fun _ => ⟨by omega, fun _ => ?_⟩⟩⟩
   exact RetR.scal hq rfl (by simp [resV])
 ·simp only [if_neg h]
  rw [VH h] at hq
  refine ⟨fun hn => RetR.scal hq rfl (by simp [resV]), fun hn => ?_⟩
  have := of_decide_eq_false hn; omega
def yJ : Ctr := ctrP true (fun s : List UInt8 => [.str s]) (fun s => s.length < 2 ^ 40) (fun s r => r = errR s) (fun _ (r : Int) => (.int .i64 r, []))
noncomputable def GQ2 : Nat → Option Ctr := fun f => if f = 77 then some (VE) else if f = 75 then some (WO) else if f = 76 then some (xg) else if f = 78 then some (zef) else none
theorem zfd : ∀ g c, GQ2 g = some c → ze Tryz.prog g c := okIf Vj (okIf Kk (okIf uE (okIf zch (zn))))
theorem xU : ze Tryz.prog 49 yJ := by
 refine zh (fn := Tryz.f49) (c := Tryz.f49.body.getD .skip) rfl rfl rfl fun s hs O w0 Q hq => ?_
 replace hq := hq _ rfl
 refine zc.run hmix zfd [] 400 (T := .ex (fun (x : List UInt8) => eqL [AV.str s] [AV.str x] ∧ x.length < 4611686018427387904) fun n => .all (fun (r : List UInt8 × List UInt8) => r = (Prod.fst (cutR n), if Prod.snd (Prod.snd (cutR n)) = true then Prod.fst (Prod.snd (cutR n)) else [(49 : UInt8)])) fun n => .ex (fun (x : List UInt8) => eqL [AV.str n.1] [AV.str x] ∧ x.length < 1099511627776) fun n_1 => .all (fun (r : List Nat × Bool × Bool) => r = digR n_1) fun n_2 => .ex (fun (x : List UInt8) => eqL [AV.str n.2] [AV.str x] ∧ x.length < 1099511627776) fun n_3 => .all (fun (r : List Nat × Bool × Bool) => r = digR n_3) fun n_4 => .ex (fun (x : List UInt8) => (bif bif bif !Prod.snd n_2.2 then true else !Prod.snd n_4.2 then true else n_4.2.1 then true else decide (n.2 = Array.toList #[(48 : UInt8)])) = false → eqL [AV.str s] [AV.str x] ∧ x.length < 4611686018427387904) fun n_5 => .all (fun (x : Int) => (bif bif bif !Prod.snd n_2.2 then true else !Prod.snd n_4.2 then true else n_4.2.1 then true else decide (n.2 = Array.toList #[(48 : UInt8)])) = false → x = if z6 n_5 < n_5.length then (↑(z6 n_5) : Int) else (-1 : Int)) fun n_6 => .ite (bif bif bif bif !Prod.snd n_2.2 then true else !Prod.snd n_4.2 then true else n_4.2.1 then true else decide (n.2 = Array.toList #[(48 : UInt8)]) then true else bif decide ((0 : Int) ≤ n_6) then decide (n.2 = Array.toList #[(49 : UInt8)]) else false) (.leaf (.ret [.int .i64 12] [])) (.ite (bif decide ((1000 : Int) < n_2.1.length) then true else decide ((1000 : Int) < n_4.1.length)) (.leaf (.ret [.int .i64 14] [])) (.ex (fun (x : List UInt8 × List UInt8) => eqL [AV.str n.1, AV.str n.2] [AV.str x.1, AV.str x.2] ∧ x.1.length < 1099511627776 ∧ x.2.length < 1099511627776) fun n => .all (fun (r : List UInt8 × Int) => r = gcdR n.1 n.2) fun n => .ex (fun (x : List UInt8) => eqL [AV.str s] [AV.str x] ∧ x.length < 4611686018427387904) fun n_7 => .all (fun (r : Int) => r = if z6 n_7 < n_7.length then (↑(z6 n_7) : Int) else (-1 : Int)) fun n_8 => .ite (bif decide ((0 : Int) ≤ n_8) then !decide (n.1 = Array.toList #[(49 : UInt8)]) else false) (.leaf (.ret [.int .i64 12] [])) (.leaf (.ret [.int .i64 0] []))))) (by kernel_rfl) ?_
 simp only [Tree.holds, zd, inR, lo, hi]
 refine ⟨s, ⟨by simp, by omega⟩, ⟨_, rfl⟩, ?_⟩
 rintro _ rfl
 have hlen := Xg s
 have hfl := zbu s
 have hno : (cutR s).2.2 = false → (cutR s).1 = s := by
  intro h
  unfold cutR at h ⊢
  split at h
  ·cases h
  ·rename_i hn; rw [if_neg hn]
 simp only [errR] at hq
 generalize cutR s = c at hq hlen hfl hno ⊢
 obtain ⟨n, d, f⟩ := c
 simp only at hq hlen hfl hno ⊢
 obtain ⟨e, he⟩ : ∃ e, (if f = true then d else [49]) = e := ⟨_, rfl⟩
 have hel : e.length < 1099511627776 := by
  rw [← he]; split
  ·omega
  ·simp
 simp only [he]
 refine ⟨n, ⟨by simp, by omega⟩, ⟨_, rfl⟩, ?_⟩
 rintro _ rfl
 refine ⟨e, ⟨by simp, by omega⟩, ⟨_, rfl⟩, ?_⟩
 rintro _ rfl
 refine ⟨s, fun _ => ⟨by simp, by omega⟩, ⟨_, fun _ => rfl⟩, ?_⟩
 intro sv hsv
 rcases Z3 n with ⟨hn1, hn2⟩ | ⟨hn1, ln, hn2, hn3⟩
 ·have hq : Q (.int .i64 12, []) := by
   cases f with
   | false => rw [if_neg (by decide), ← hno rfl, hn1] at hq; exact hq
   | true => rw [if_pos rfl, if_pos (.inl hn1)] at hq; exact hq
  simp only [hn2]
  exact ⟨fun _ => RetR.scal hq rfl (by simp [resV]), fun h => by simp at h⟩
 rcases Z3 e with ⟨he1, he2⟩ | ⟨he1, le, he2, he3⟩
 ·have hq : Q (.int .i64 12, []) := by
   cases f with
   | false => rw [if_neg (by decide)] at he; subst he; exact absurd he1 (by decide)
   | true =>
    rw [if_pos rfl] at he; subst he
    rw [if_pos rfl, if_pos (.inr (.inl he1))] at hq; exact hq
  simp only [hn2, he2]
  exact ⟨fun _ => RetR.scal hq rfl (by simp [resV]), fun h => by simp at h⟩
 simp only [hn2, he2, Bool.not_true, cond_false] at hsv ⊢
 cases f with
 | false =>
  rw [if_neg (by decide)] at he hq
  subst he
  have hnn : negI [49] = false := by decide
  have h49 : errI [49] = 0 := by decide
  have hs := hno rfl
  subst hs
  simp only [hnn, cond_false] at hsv ⊢
  have hsv := hsv (by decide)
  rw [← hsv] at hfl
  rw [← hfl, hn3, he3, h49]
  refine ⟨fun h => by simp at h, fun _ => ⟨fun h => ?_, fun h => ?_⟩⟩
  ·rcases jH n with e | e | e
   ·rw [e] at h; simp at h
   ·exact absurd e hn1
   ·rw [e] at hq; exact RetR.scal hq rfl (by simp [resV])
  ·have h0 : errI n = 0 := by
    rcases jH n with e | e | e
    ·exact e
    ·exact absurd e hn1
    ·rw [e] at h; simp at h
   rw [h0] at hq
   refine ⟨(n, [49]), ⟨by simp, by simp only; omega, by simp⟩, ⟨_, rfl⟩, ?_⟩
   rintro _ rfl
   refine ⟨n, ⟨by simp, by omega⟩, ⟨_, rfl⟩, ?_⟩
   rintro _ rfl
   rw [← hsv, ← hfl]
   refine ⟨fun h => by simp at h, fun _ => RetR.scal hq rfl (by simp [resV])⟩
 | true =>
  rw [if_pos rfl] at he hq
  subst he
  cases hng : negI d with
  | true =>
   rw [if_pos (.inr (.inr (.inl hng)))] at hq
   exact ⟨fun _ => RetR.scal hq rfl (by simp [resV]), fun h => by simp at h⟩
  | false =>
   simp only [hng, cond_false] at hsv ⊢
   by_cases h48 : d = [48]
   ·rw [if_pos (.inr (.inr (.inr (.inl h48))))] at hq
    rw [decide_eq_true h48]
    exact ⟨fun _ => RetR.scal hq rfl (by simp [resV]), fun h => by simp at h⟩
   ·rw [decide_eq_false h48] at hsv ⊢
    have hsv := hsv rfl
    rw [← hsv] at hfl
    rw [← hfl]
    simp only [cond_false, cond_true]
    by_cases h49 : d = [49]
    ·rw [if_pos (.inr (.inr (.inr (.inr h49))))] at hq
     rw [decide_eq_true h49]
     exact ⟨fun _ => RetR.scal hq rfl (by simp [resV]), fun h => by simp at h⟩
    ·rw [decide_eq_false h49]
     rw [if_neg (by simp [hn1, he1, hng, h48, h49])] at hq
     refine ⟨fun h => (by cases h), fun _ => ?_⟩
     rw [hn3, he3]
     by_cases hn0 : errI n = 0
     ·by_cases hd0 : errI d = 0
      ·rw [if_neg (by simp [hn0, hd0])] at hq
       refine ⟨fun h => by simp [hn0, hd0] at h, fun _ => ?_⟩
       refine ⟨(n, d), ⟨by simp, by simp only; omega, by simp only; omega⟩, ⟨_, rfl⟩, ?_⟩
       rintro _ rfl
       refine ⟨s, ⟨by simp, by omega⟩, ⟨_, rfl⟩, ?_⟩
       rintro _ rfl
       rw [← hsv, ← hfl]
       refine ⟨fun h => ?_, fun h => ?_⟩
       ·rw [if_pos (by simpa using h)] at hq
        exact RetR.scal hq rfl (by simp [resV])
       ·rw [if_neg (by simpa using h)] at hq
        exact RetR.scal hq rfl (by simp [resV])
      ·rw [if_pos (.inr hd0)] at hq
       refine ⟨fun _ => RetR.scal hq rfl (by simp [resV]), fun h => by simp [hn0, hd0] at h⟩
     ·rw [if_pos (.inl hn0)] at hq
      refine ⟨fun _ => RetR.scal hq rfl (by simp [resV]), fun h => by simp [hn0] at h⟩
end Go.Proofs.Tryz
end

/- Names and days. -/
section
set_option maxRecDepth 100000
open Go Go.Sx Go.Proofs Go.Nov
namespace Go.Proofs.Tryz
attribute [local simp] eqKV eqA eqA0 eqH eqB eqL eqL0
noncomputable def K35 : List Go.Sx.Item := [.code (Tryz.f35.body.getD .skip)]
noncomputable def K47 : List Go.Sx.Item := [.code (Tryz.f47.body.getD .skip)]
def xo : Ctr := ctrP true (fun d : Int => [.int .i64 d]) (fun _ => True) (fun d r => r = dayB d) (fun _ (r : Bool) => (.bool r, []))
theorem Jp : ze Tryz.prog 36 xo := by
 refine zh (fn := Tryz.f36) (c := Tryz.f36.body.getD .skip) rfl rfl rfl fun d hs O w0 Q hq => ?_
 replace hq := hq _ rfl
 refine zc.run hmix zr [] 400 (T := .leaf (.ret [.bool (bif decide ((0 : Int) ≤ d) then decide (d ≤ 99999) else false)] [])) (by kernel_rfl) ?_
 simp only [Tree.holds, zd]
 refine RetR.scal hq rfl ?_
 simp only [resV, dayB]
 cases decide (0 ≤ d) <;> rfl
theorem Xs : ze Tryz.prog 48 xo := by
 refine zh (fn := Tryz.f48) (c := Tryz.f48.body.getD .skip) rfl rfl rfl fun d hs O w0 Q hq => ?_
 replace hq := hq _ rfl
 refine zc.run hmix zr [] 400 (T := .leaf (.ret [.bool (bif decide ((0 : Int) ≤ d) then decide (d ≤ 99999) else false)] [])) (by kernel_rfl) ?_
 simp only [Tree.holds, zd]
 refine RetR.scal hq rfl ?_
 simp only [resV, dayB]
 cases decide (0 ≤ d) <;> rfl
theorem Xk (c : UInt8) : (bif bif decide (97 ≤ (c.toNat : Int)) then decide ((c.toNat : Int) ≤ 122) else false then true else bif decide (65 ≤ (c.toNat : Int)) then decide ((c.toNat : Int) ≤ 90) else false) = isL c := by
 have e1 : decide (97 ≤ (c.toNat : Int)) = decide (97 ≤ c.toNat) := decide_eq_decide.2 (by omega)
 have e2 : decide ((c.toNat : Int) ≤ 122) = decide (c.toNat ≤ 122) := decide_eq_decide.2 (by omega)
 have e3 : decide (65 ≤ (c.toNat : Int)) = decide (65 ≤ c.toNat) := decide_eq_decide.2 (by omega)
 have e4 : decide ((c.toNat : Int) ≤ 90) = decide (c.toNat ≤ 90) := decide_eq_decide.2 (by omega)
 rw [e1, e2, e3, e4]
 simp only [isL]
 cases decide (97 ≤ c.toNat) <;> cases decide (c.toNat ≤ 122) <;> cases decide (65 ≤ c.toNat) <;> rfl
def Xy : Ctr := ctrP true (fun c : UInt8 => [.int .u8 (c.toNat : Int)]) (fun _ => True) (fun c r => r = isL c) (fun _ (r : Bool) => (.bool r, []))
theorem XW : ze Tryz.prog 61 Xy := by
 refine zh (fn := Tryz.f61) (c := Tryz.f61.body.getD .skip) rfl rfl rfl fun c hs O w0 Q hq => ?_
 replace hq := hq _ rfl
 refine zc.run hmix zr [] 400 (T := .leaf (.ret [.bool (bif bif decide ((97 : Int) ≤ (↑(UInt8.toNat c) : Int)) then decide ((↑(UInt8.toNat c) : Int) ≤ 122) else false then true else bif decide ((65 : Int) ≤ (↑(UInt8.toNat c) : Int)) then decide ((↑(UInt8.toNat c) : Int) ≤ 90) else false)] [])) (by kernel_rfl) ?_
 simp only [Tree.holds, zd]
 refine RetR.scal hq rfl ?_
 simp only [resV]
 rw [Xk]
theorem xe (c d : UInt8) : decide ((c.toNat : Int) = (d.toNat : Int)) = (c == d) := by
 by_cases h : c = d
 ·subst h; simp
 ·rw [decide_eq_false fun h2 => h (Z4 h2)]
  simp [h]
theorem zcv (c : UInt8) : (bif decide ((c.toNat : Int) < 48) then true else decide (57 < (c.toNat : Int))) = !isD c := by
 rw [Bool.cond_eq_ite]; exact kD c
theorem za3 (c : UInt8) : (bif decide (48 ≤ (c.toNat : Int)) then decide ((c.toNat : Int) ≤ 57) else false) = isD c := by
 have e1 : decide (48 ≤ (c.toNat : Int)) = decide (48 ≤ c.toNat) := decide_eq_decide.2 (by omega)
 have e2 : decide ((c.toNat : Int) ≤ 57) = decide (c.toNat ≤ 57) := decide_eq_decide.2 (by omega)
 rw [e1, e2]; simp only [isD]
 cases decide (48 ≤ c.toNat) <;> cases decide (c.toNat ≤ 57) <;> rfl
theorem zao (c : UInt8) : (bif bif bif !isL c then bif decide ((c.toNat : Int) < 48) then true else decide (57 < (c.toNat : Int)) else false then !decide ((c.toNat : Int) = 95) else false then !decide ((c.toNat : Int) = 45) else false) = !isN c := by
 rw [zcv]
 have e1 : decide ((c.toNat : Int) = 95) = (c == 95) := xe c 95
 have e2 : decide ((c.toNat : Int) = 45) = (c == 45) := xe c 45
 rw [e1, e2]; simp only [isN]
 cases isL c <;> cases isD c <;> cases (c == 95) <;> cases (c == 45) <;> rfl
theorem YX (c : UInt8) (z : Bool) : (bif !bif bif decide (97 ≤ (c.toNat : Int)) then decide ((c.toNat : Int) ≤ 122) else false then true else bif decide (65 ≤ (c.toNat : Int)) then decide ((c.toNat : Int) ≤ 90) else false then
  bif z then true else !bif bif bif decide (48 ≤ (c.toNat : Int)) then decide ((c.toNat : Int) ≤ 57) else false then true else decide ((c.toNat : Int) = 95) then true else decide ((c.toNat : Int) = 45) else false) = !(isL c || (!z && isN c)) := by
 rw [Xk, za3]
 have e1 : decide ((c.toNat : Int) = 95) = (c == 95) := xe c 95
 have e2 : decide ((c.toNat : Int) = 45) = (c == 45) := xe c 45
 rw [e1, e2]; simp only [isN]
 cases isL c <;> cases z <;> cases isD c <;> cases (c == 95) <;> cases (c == 45) <;> rfl
theorem zdo {c : UInt8} (h : isL c = true) : isN c = true := by simp [isN, h]
def xy : Ctr := ctrP true (fun s : List UInt8 => [.str s]) (fun s => s.length < 2 ^ 62) (fun s r => r = zu s) (fun _ (r : Bool) => (.bool r, []))
noncomputable def GN1 : Nat → Option Ctr := fun f => if f = 61 then some (Xy) else none
theorem U6 : ∀ g c, GN1 g = some c → ze Tryz.prog g c := okIf XW (zn)
def SNa (s : List UInt8) (i : Nat) : KV := [(0, .str s), (20, .int .i64 (s.length : Int)), (21, .int .i64 (i : Int)), (31, .undef), (32, .undef), (33, .undef), (34, .undef), (35, .undef), (36, .undef), (39, .undef), (40, .undef), (43, .undef), (44, .undef)]
theorem YA {O : Nat → Prop} {w0 : World} {Q : AV × Heap → Prop} {Hs : Nat → KV → Heap → Prop} (s : List UInt8) (hs : s.length < 2 ^ 62) (hq : Q (.bool (s.all isN), [])) :
  zc Tryz.prog Tryz.f35 O 0 w0 [] Hs (RetR xy 0 Q) (.code (.loop (lps K35 0).1) :: (lps K35 0).2) (mk Tryz.f35.ntmps (SNa s 0) []) := by
 refine zc.loop (ι := {i : Nat // i ≤ s.length ∧ ∀ j, j < i → isN (s.getD j 0) = true}) (fun i => SNa s i.1) (fun _ => []) (fun i => s.length - i.1) ⟨0, Nat.zero_le _, fun j hj => by omega⟩ 0 ?_ ?_ (by kernel_rfl)
 ·exact ⟨by simp [SNa], by simp, by kernel_rfl, Nat.zero_le _⟩
 ·rintro ⟨i, hil, hib⟩
  refine zc.run hmix U6 [0, 20, 21, 31, 32, 33, 34, 35, 36, 39, 40, 43, 44] 400 (T := .ite (decide ((↑i : Int) < s.length)) (.side ((0 : Int) ≤ i ∧ (↑i : Int) < s.length) (.ex (fun (x : UInt8) => eqL [AV.int .u8 (↑(UInt8.toNat (List.getD s (Int.toNat (↑i : Int)) (0 : UInt8))) : Int)] [AV.int .u8 (↑(UInt8.toNat x) : Int)] ∧ True) fun n => .all (fun (r : Bool) => r = isL n) fun n => .ite (bif bif bif !n then bif decide ((↑(UInt8.toNat (List.getD s (Int.toNat (↑i : Int)) (0 : UInt8))) : Int) < 48) then true else decide ((57 : Int) < (↑(UInt8.toNat (List.getD s (Int.toNat (↑i : Int)) (0 : UInt8))) : Int)) else false then !decide ((↑(UInt8.toNat (List.getD s (Int.toNat (↑i : Int)) (0 : UInt8))) : Int) = 95) else false then !decide ((↑(UInt8.toNat (List.getD s (Int.toNat (↑i : Int)) (0 : UInt8))) : Int) = 45) else false) (.leaf (.ret [.bool false] [])) (.side (inR .i64 ((↑i : Int) + (1 : Int))) (.leaf (.back 0 [(0, .str s), (20, .int .i64 s.length), (21, .int .i64 ((↑i : Int) + (1 : Int))), (31, .undef), (32, .undef), (33, .undef), (34, .undef), (35, .undef), (36, .undef), (39, .undef), (40, .undef), (43, .undef), (44, .undef)] []))))) (.leaf (.ret [.bool true] []))) (by kernel_rfl) ?_
  simp only [Tree.holds, zd, inR, lo, hi, Int.toNat_natCast]
  refine ⟨fun hlt => ?_, fun hge => ?_⟩
  ·have hlt : i < s.length := by have := of_decide_eq_true hlt; omega
   refine ⟨by omega, fun _ => ⟨s.getD i 0, ⟨by simp, trivial⟩, ⟨_, rfl⟩, ?_⟩⟩
   rintro _ rfl
   rw [zao]
   refine ⟨fun h => ?_, fun h => ⟨by omega, fun _ => ?_⟩⟩
   ·rw [yI hlt (by simpa using h)] at hq
    exact RetR.scal hq rfl (by simp [resV])
   ·rw [if_pos trivial]
    refine ⟨⟨i + 1, hlt, fun j hj => ?_⟩, by show s.length - (i + 1) < s.length - i; omega, by simp [SNa], by simp, by kernel_rfl, Nat.zero_le _⟩
    rcases Nat.lt_or_ge j i with h1 | h1
    ·exact hib j h1
    ·have : j = i := by omega
     rw [this]; simpa using h
  ·have hge : i = s.length := by have := of_decide_eq_false hge; omega
   subst hge
   rw [Vk hib] at hq
   exact RetR.scal hq rfl (by simp [resV])
theorem JO : ze Tryz.prog 35 xy := by
 refine zh (fn := Tryz.f35) (c := Tryz.f35.body.getD .skip) rfl rfl rfl fun s hs O w0 Q hq => ?_
 replace hq := hq _ rfl
 refine zc.run hmix U6 [0, 20, 21, 31, 32, 33, 34, 35, 36, 39, 40, 43, 44] 400 (T := .side ((bif decide ((↑s.length : Int) < 1) then true else decide ((40 : Int) < s.length)) = false → (0 : Int) ≤ 0 ∧ (0 : Int) < s.length) (.ex (fun (x : UInt8) => (bif decide ((↑s.length : Int) < 1) then true else decide ((40 : Int) < s.length)) = false → eqL [AV.int .u8 (↑(UInt8.toNat (List.getD s 0 (0 : UInt8))) : Int)] [AV.int .u8 (↑(UInt8.toNat x) : Int)] ∧ True) fun n => .all (fun (x : Bool) => (bif decide ((↑s.length : Int) < 1) then true else decide ((40 : Int) < s.length)) = false → x = isL n) fun n => .ite (bif bif decide ((↑s.length : Int) < 1) then true else decide ((40 : Int) < s.length) then true else !n) (.leaf (.ret [.bool false] [])) (.leaf (.loop (Prod.fst (lps K35 0)) (Prod.snd (lps K35 0)) [(0, .str s), (20, .int .i64 s.length), (21, .int .i64 0), (31, .undef), (32, .undef), (33, .undef), (34, .undef), (35, .undef), (36, .undef), (39, .undef), (40, .undef), (43, .undef), (44, .undef)] [])))) (by kernel_rfl) ?_
 simp only [Tree.holds, zd, inR, lo, hi]
 have hd : decide ((s.length : Int) < 1) = !decide (0 < s.length) := by
  by_cases h : 0 < s.length
  ·rw [decide_eq_true h, decide_eq_false (by omega)]; rfl
  ·rw [decide_eq_false h, decide_eq_true (by omega)]; rfl
 have hd2 : decide (40 < (s.length : Int)) = !decide (s.length ≤ 40) := by
  by_cases h : s.length ≤ 40
  ·rw [decide_eq_true h, decide_eq_false (by omega)]; rfl
  ·rw [decide_eq_false h, decide_eq_true (by omega)]; rfl
 rw [hd, hd2]
 have hnb : zu s = (decide (0 < s.length) && decide (s.length ≤ 40) && isL (s.getD 0 0) && s.all isN) := rfl
 cases h1 : decide (0 < s.length) with
 | false =>
  rw [hnb, h1] at hq
  refine ⟨fun h => (by cases h), fun _ => ⟨0, fun h => (by cases h), ⟨false, fun h => (by cases h)⟩, ?_⟩⟩
  intro b _
  exact ⟨fun _ => RetR.scal hq rfl (by simp [resV]), fun h => (by cases h)⟩
 | true =>
  have h1' := of_decide_eq_true h1
  cases h2 : decide (s.length ≤ 40) with
  | false =>
   rw [hnb, h1, h2] at hq
   refine ⟨fun h => (by cases h), fun _ => ⟨0, fun h => (by cases h), ⟨false, fun h => (by cases h)⟩, ?_⟩⟩
   intro b _
   exact ⟨fun _ => RetR.scal hq rfl (by simp [resV]), fun h => (by cases h)⟩
  | true =>
   refine ⟨fun _ => by omega, fun _ => ⟨s.getD 0 0, fun _ => ⟨by simp, trivial⟩, ⟨_, fun _ => rfl⟩, ?_⟩⟩
   intro b hb
   have hb := hb rfl
   subst hb
   cases h3 : isL (s.getD 0 0) with
   | false =>
    rw [hnb, h1, h2, h3] at hq
    exact ⟨fun _ => RetR.scal hq rfl (by simp [resV]), fun h => (by cases h)⟩
   | true =>
    rw [hnb, h1, h2, h3] at hq
    refine ⟨fun h => (by cases h), fun _ => ?_⟩
    exact YA s hs hq
def SNr (s : List UInt8) (i : Nat) : KV := [(0, .str s), (3, .int .i64 (i : Int)), (27, .undef), (28, .undef), (31, .undef), (32, .undef), (33, .undef), (34, .undef), (35, .undef), (36, .undef), (41, .undef), (42, .undef), (45, .undef), (46, .undef), (49, .undef), (50, .undef), (55, .undef), (56, .undef), (57, .undef), (58, .undef), (59, .undef), (60, .undef)]
theorem Kj {O : Nat → Prop} {w0 : World} {Q : AV × Heap → Prop} {Hs : Nat → KV → Heap → Prop} (s : List UInt8) (hs : s.length < 2 ^ 62) (h0 : 0 < s.length) (hq : Q (.bool (isL (s.getD 0 0) && s.all isN), [])) :
  zc Tryz.prog Tryz.f47 O 0 w0 [] Hs (RetR xy 0 Q) (.code (.loop (lps K47 0).1) :: (lps K47 0).2) (mk Tryz.f47.ntmps (SNr s 0) []) := by
 refine zc.loop (ι := {i : Nat // i ≤ s.length ∧ (∀ j, j < i → isN (s.getD j 0) = true) ∧ (0 < i → isL (s.getD 0 0) = true)}) (fun i => SNr s i.1) (fun _ => []) (fun i => s.length - i.1) ⟨0, Nat.zero_le _, fun j hj => by omega, fun h => by omega⟩ 0 ?_ ?_ (by kernel_rfl)
 ·exact ⟨by simp [SNr], by simp, by kernel_rfl, Nat.zero_le _⟩
 ·rintro ⟨i, hil, hib, hi0⟩
  refine zc.run hmix zr [0, 3, 27, 28, 31, 32, 33, 34, 35, 36, 41, 42, 45, 46, 49, 50, 55, 56, 57, 58, 59, 60] 400 (T := .ite (decide ((↑i : Int) < s.length)) (.side ((0 : Int) ≤ i ∧ (↑i : Int) < s.length) (.ite (bif !bif bif decide ((97 : Int) ≤ (↑(UInt8.toNat (List.getD s (Int.toNat (↑i : Int)) (0 : UInt8))) : Int)) then decide ((↑(UInt8.toNat (List.getD s (Int.toNat (↑i : Int)) (0 : UInt8))) : Int) ≤ 122) else false then true else bif decide ((65 : Int) ≤ (↑(UInt8.toNat (List.getD s (Int.toNat (↑i : Int)) (0 : UInt8))) : Int)) then decide ((↑(UInt8.toNat (List.getD s (Int.toNat (↑i : Int)) (0 : UInt8))) : Int) ≤ 90) else false then bif decide ((↑i : Int) = 0) then true else !bif bif bif decide ((48 : Int) ≤ (↑(UInt8.toNat (List.getD s (Int.toNat (↑i : Int)) (0 : UInt8))) : Int)) then decide ((↑(UInt8.toNat (List.getD s (Int.toNat (↑i : Int)) (0 : UInt8))) : Int) ≤ 57) else false then true else decide ((↑(UInt8.toNat (List.getD s (Int.toNat (↑i : Int)) (0 : UInt8))) : Int) = 95) then true else decide ((↑(UInt8.toNat (List.getD s (Int.toNat (↑i : Int)) (0 : UInt8))) : Int) = 45) else false) (.leaf (.ret [.bool false] [])) (.side (inR .i64 ((↑i : Int) + (1 : Int))) (.leaf (.back 0 [(0, .str s), (3, .int .i64 ((↑i : Int) + (1 : Int))), (27, .undef), (28, .undef), (31, .undef), (32, .undef), (33, .undef), (34, .undef), (35, .undef), (36, .undef), (41, .undef), (42, .undef), (45, .undef), (46, .undef), (49, .undef), (50, .undef), (55, .undef), (56, .undef), (57, .undef), (58, .undef), (59, .undef), (60, .undef)] []))))) (.leaf (.ret [.bool true] []))) (by kernel_rfl) ?_
  simp only [Tree.holds, zd, inR, lo, hi, Int.toNat_natCast]
  refine ⟨fun hlt => ?_, fun hge => ?_⟩
  ·have hlt : i < s.length := by have := of_decide_eq_true hlt; omega
   refine ⟨by omega, fun _ => ?_⟩
   rw [YX]
   have hz : decide ((i : Int) = 0) = decide (i = 0) := decide_eq_decide.2 (by omega)
   rw [hz]
   refine ⟨fun h => ?_, fun h => ⟨by omega, fun _ => ?_⟩⟩
   ·have hf : (isL (s.getD 0 0) && s.all isN) = false := by
     have h : (isL (s.getD i 0) || (!decide (i = 0) && isN (s.getD i 0))) = false := by simpa only [Bool.not_eq_true'] using h
     rcases Nat.eq_zero_or_pos i with hi | hi
     ·subst hi
      have : isL (s.getD 0 0) = false := by
       cases h3 : isL (s.getD 0 0) with
       | false => rfl
       | true => rw [h3] at h; cases h
      rw [this]; rfl
     ·rw [decide_eq_false (by omega)] at h
      have : isN (s.getD i 0) = false := by
       cases h3 : isN (s.getD i 0) with
       | false => rfl
       | true => rw [h3] at h; revert h; cases isL (s.getD i 0) <;> intro h <;> cases h
      rw [yI hlt this]; cases isL (s.getD 0 0) <;> rfl
    rw [hf] at hq
    exact RetR.scal hq rfl (by simp [resV])
   ·rw [if_pos trivial]
    have h : (isL (s.getD i 0) || (!decide (i = 0) && isN (s.getD i 0))) = true := by simpa only [Bool.not_eq_false'] using h
    have hN : isN (s.getD i 0) = true := by
     cases h3 : isL (s.getD i 0) with
     | true => exact zdo h3
     | false =>
      rw [h3] at h
      revert h; cases decide (i = 0) <;> cases isN (s.getD i 0) <;> simp
    refine ⟨⟨i + 1, hlt, fun j hj => ?_, fun _ => ?_⟩, by show s.length - (i + 1) < s.length - i; omega, by simp [SNr], by simp, by kernel_rfl, Nat.zero_le _⟩
    ·rcases Nat.lt_or_ge j i with h1 | h1
     ·exact hib j h1
     ·have : j = i := by omega
      rw [this]; exact hN
    ·rcases Nat.eq_zero_or_pos i with h1 | h1
     ·subst h1
      cases h3 : isL (s.getD 0 0) with
      | true => rfl
      | false => rw [h3] at h; cases h
     ·exact hi0 h1
  ·have hge : i = s.length := by have := of_decide_eq_false hge; omega
   subst hge
   rw [Vk hib, hi0 h0] at hq
   exact RetR.scal hq rfl (by simp [resV])
theorem Zl : ze Tryz.prog 47 xy := by
 refine zh (fn := Tryz.f47) (c := Tryz.f47.body.getD .skip) rfl rfl rfl fun s hs O w0 Q hq => ?_
 replace hq := hq _ rfl
 refine zc.run hmix zr [0, 3, 27, 28, 31, 32, 33, 34, 35, 36, 41, 42, 45, 46, 49, 50, 55, 56, 57, 58, 59, 60] 400 (T := .ite (bif decide ((↑s.length : Int) = 0) then true else decide ((40 : Int) < s.length)) (.leaf (.ret [.bool false] [])) (.leaf (.loop (Prod.fst (lps K47 0)) (Prod.snd (lps K47 0)) [(0, .str s), (3, .int .i64 0), (27, .undef), (28, .undef), (31, .undef), (32, .undef), (33, .undef), (34, .undef), (35, .undef), (36, .undef), (41, .undef), (42, .undef), (45, .undef), (46, .undef), (49, .undef), (50, .undef), (55, .undef), (56, .undef), (57, .undef), (58, .undef), (59, .undef), (60, .undef)] []))) (by kernel_rfl) ?_
 simp only [Tree.holds, zd, inR, lo, hi]
 have hd : decide ((s.length : Int) = 0) = !decide (0 < s.length) := by
  by_cases h : 0 < s.length
  ·rw [decide_eq_true h, decide_eq_false (by omega)]; rfl
  ·rw [decide_eq_false h, decide_eq_true (by omega)]; rfl
 have hd2 : decide (40 < (s.length : Int)) = !decide (s.length ≤ 40) := by
  by_cases h : s.length ≤ 40
  ·rw [decide_eq_true h, decide_eq_false (by omega)]; rfl
  ·rw [decide_eq_false h, decide_eq_true (by omega)]; rfl
 rw [hd, hd2]
 have hnb : zu s = (decide (0 < s.length) && decide (s.length ≤ 40) && isL (s.getD 0 0) && s.all isN) := rfl
 cases h1 : decide (0 < s.length) with
 | false =>
  rw [hnb, h1] at hq
  exact ⟨fun _ => RetR.scal hq rfl (by simp [resV]), fun h => (by cases h)⟩
 | true =>
  cases h2 : decide (s.length ≤ 40) with
  | false =>
   rw [hnb, h1, h2] at hq
   exact ⟨fun _ => RetR.scal hq rfl (by simp [resV]), fun h => (by cases h)⟩
  | true =>
   rw [hnb, h1, h2] at hq
   refine ⟨fun h => (by cases h), fun _ => ?_⟩
   exact Kj s hs (of_decide_eq_true h1) hq
end Go.Proofs.Tryz
end

/- Nil slices of a result, handed back as own empty ones. -/
section
namespace Go.Sx
variable [Stat]
section
variable {own own' O : Nat → Prop} {w w' : World} {σ σ' : List SE} {P : Program} {fn : Func}
def upA0 (d k : Nat) : AV → AV → Prop
 | .nils, .osl i _ off n => (d ≤ i ∧ i < d + k) ∧ off = 0 ∧ n = 0
 | a, b => a = b
def upL0 (d k : Nat) : List AV → List AV → Prop
 | [], [] => True
 | a :: l, b :: m => upA0 d k a b ∧ upL0 d k l m
 | _, _ => False
def upA1 (d k : Nat) : AV → AV → Prop
 | .agg l, .agg m => upL0 d k l m
 | a, b => upA0 d k a b
def upL1 (d k : Nat) : List AV → List AV → Prop
 | [], [] => True
 | a :: l, b :: m => upA1 d k a b ∧ upL1 d k l m
 | _, _ => False
def upA2 (d k : Nat) : AV → AV → Prop
 | .tup l, .tup m => upL1 d k l m
 | a, b => upA1 d k a b
def j7 (k : Nat) : List SE := List.replicate k ⟨none, 0⟩
theorem yo.mono {g : Nat} {vals : Array Value} {R R' : Value → World → Prop} (hR : ∀ v w', R v w' → R' v w') (h : yo P g vals w R) : yo P g vals w R' := by
 rcases h with ⟨h1, h2⟩ | ⟨v, w', h1, h2⟩
 ·exact .inl ⟨h1, h2.mono fun e w' ⟨v, he, hv⟩ => ⟨v, he, hR v w' hv⟩⟩
 ·exact .inr ⟨v, w', h1, hR v w' h2⟩
theorem qH {k i : Nat} {e : SE} (h : (σ ++ j7 k)[i]? = some e) : (i < σ.length ∧ σ[i]? = some e) ∨ (σ.length ≤ i ∧ e = ⟨none, 0⟩) := by
 rw [List.getElem?_append] at h
 split at h
 ·rename_i hi; exact .inl ⟨hi, h⟩
 ·rename_i hi
  right
  refine ⟨by omega, ?_⟩
  simp only [j7, List.getElem?_replicate] at h
  split at h
  ·cases h; rfl
  ·cases h
theorem ZS {k b : Nat} (h : Mine (σ ++ j7 k) b) : Mine σ b := by
 obtain ⟨e, he, ad, h1, h2⟩ := h
 rcases List.mem_append.1 he with he | he
 ·exact ⟨e, he, ad, h1, h2⟩
 ·have := List.eq_of_mem_replicate he
  subst this
  cases h1
theorem u1 {k b : Nat} (h : Own O (σ ++ j7 k) b) : Own O σ b := by
 rcases h with h | h
 ·exact .inl h
 ·exact .inr (ZS h)
theorem wY (K : List Nat) (w : World) (σ : List SE) (k : Nat) : Hold K w σ w (σ ++ j7 k) := fun i e he _ => by
 have hi := (List.getElem?_eq_some_iff.1 he).1
 exact ⟨by rw [List.getElem?_append_left hi]; exact he, fun ad _ cs el h => ⟨cs, el, h, rfl⟩⟩
theorem Jr {k : Nat} (hx : Ext own w own' w) {a b : AV} {v : Value} (hu : upA0 σ.length k a b) (ha : Rep own w a σ v) : Rep own' w b (σ ++ j7 k) v := by
 unfold upA0 at hu
 split at hu
 ·obtain ⟨⟨h1, h2⟩, rfl, rfl⟩ := hu
  rename_i i sz _ _
  simp only [Rep] at ha ⊢
  refine ⟨⟨none, 0⟩, ?_, by simp, none, 0, ha, Nat.le_refl _, .inl rfl⟩
  rw [List.getElem?_append_right h1, j7, List.getElem?_replicate, if_pos (by omega)]
 ·subst hu
  exact zS (K := []) hx (wY [] w σ k) _ _ (qT _) ha
theorem Zx {k : Nat} (hx : Ext own w own' w) : ∀ {l m : List AV} {vs : List Value}, upL0 σ.length k l m → RepL own w l σ vs → RepL own' w m (σ ++ j7 k) vs
 | [], [], vs, _, h => by simpa [RepL] using h
 | a :: l, b :: m, vs, hl, h => by
  simp only [RepL] at h ⊢
  obtain ⟨v, r, hv, h1, h2⟩ := h
  exact ⟨v, r, hv, Jr hx hl.1 h1, Zx hx hl.2 h2⟩
 | [], _ :: _, _, hl, _ => hl.elim
 | _ :: _, [], _, hl, _ => hl.elim
theorem QE {k : Nat} (hx : Ext own w own' w) {a b : AV} {v : Value} (hu : upA1 σ.length k a b) (ha : Rep own w a σ v) : Rep own' w b (σ ++ j7 k) v := by
 unfold upA1 at hu
 split at hu
 ·simp only [Rep] at ha ⊢
  obtain ⟨vs, hv, hr⟩ := ha
  exact ⟨vs, hv, Zx hx hu hr⟩
 ·exact Jr hx hu ha
theorem xG {k : Nat} (hx : Ext own w own' w) : ∀ {l m : List AV} {vs : List Value}, upL1 σ.length k l m → RepL own w l σ vs → RepL own' w m (σ ++ j7 k) vs
 | [], [], vs, _, h => by simpa [RepL] using h
 | a :: l, b :: m, vs, hl, h => by
  simp only [RepL] at h ⊢
  obtain ⟨v, r, hv, h1, h2⟩ := h
  exact ⟨v, r, hv, QE hx hl.1 h1, xG hx hl.2 h2⟩
 | [], _ :: _, _, hl, _ => hl.elim
 | _ :: _, [], _, hl, _ => hl.elim
theorem QX {k : Nat} (hx : Ext own w own' w) {a b : AV} {v : Value} (hu : upA2 σ.length k a b) (ha : Rep own w a σ v) : Rep own' w b (σ ++ j7 k) v := by
 unfold upA2 at hu
 split at hu
 ·simp only [Rep] at ha ⊢
  obtain ⟨vs, hv, hr⟩ := ha
  exact ⟨vs, hv, xG hx hu hr⟩
 ·exact QE hx hu ha
def kn (szs : List (Nat × (Nat → Nat → AV))) : Heap := szs.map fun s => .arr 0 s.1 s.2
theorem zdx (hx : Ext own w own' w) {hs : Heap} (hh : HRep own w σ hs) (szs : List (Nat × (Nat → Nat → AV))) : HRep own' w (σ ++ j7 szs.length) (hs ++ kn szs) := by
 have hl := hh.len
 refine ⟨by simp [j7, kn, hl], fun i j e f a b he hf ha hb hij => ?_, fun i e a he ha => ?_, fun i e b he hb => ?_⟩
 ·rcases qH he with ⟨_, he⟩ | ⟨_, rfl⟩
  ·rcases qH hf with ⟨_, hf⟩ | ⟨_, rfl⟩
   ·exact hh.inj i j e f a b he hf ha hb hij
   ·cases hb
  ·cases ha
 ·rcases qH he with ⟨_, he⟩ | ⟨_, rfl⟩
  ·exact hh.lt i e a he ha
  ·cases ha
 ·rcases qH he with ⟨hi, he⟩ | ⟨hi, rfl⟩
  ·rw [List.getElem?_append_left (by omega)] at hb
   have := qF (K := []) hx (wY [] w σ szs.length) (hh.blk i e b he hb) (fun _ _ => rfl)
   rwa [qO] at this
  ·rw [List.getElem?_append_right (by omega)] at hb
   simp only [kn, List.getElem?_map] at hb
   cases hz : szs[i - hs.length]? with
   | none => simp [hz] at hb
   | some s =>
    simp only [hz, Option.map_some, Option.some.injEq] at hb
    subst hb
    exact ⟨rfl, .inl rfl⟩
def upQ (Q : AV × Heap → Prop) (p : AV × Heap) : Prop := Q p ∨ ∃ (r : AV) (szs : List (Nat × (Nat → Nat → AV))), upA2 p.2.length szs.length p.1 r ∧ Q (r, p.2 ++ kn szs)
theorem qq.up {g : Nat} {c : Ctr} {args : List AV} {hc : Heap} {Q : AV × Heap → Prop} (h : qq P g c args hc (upQ Q)) : qq P g c args hc Q := by
 intro O w σ vals hg hh hr
 refine yo.mono ?_ (h O w σ vals hg hh hr)
 rintro v w' ⟨r, hs, σ', hq, h1, h2, h3, h4, h5, h6⟩
 rcases hq with hq | ⟨r', szs, hu, hq⟩
 ·exact ⟨r, hs, σ', hq, h1, h2, h3, h4, h5, h6⟩
 ·have hx : Ext (fun b => Own O σ' b ∨ (c.fresh = true ∧ b < w.heap.size)) w' (fun b => Own O (σ' ++ j7 szs.length) b ∨ (c.fresh = true ∧ b < w.heap.size)) w' :=
   ⟨rfl, rfl, rfl, Nat.le_refl _, fun _ _ _ => rfl, fun b hb => .inl (hb.imp u1 id)⟩
  have hl : hs.length = σ'.length := h2.len.symm
  refine ⟨r', hs ++ kn szs, σ' ++ j7 szs.length, hq, QX hx (by rw [← hl]; exact hu) h1, zdx hx h2 szs, ⟨h3.old, fun i e ad he had => ?_, h3.stat.own fun b hb => u1 hb⟩, by simp; omega, h5.Vt (wY [] w' σ' _), ?_⟩
  ·rcases qH he with ⟨_, he⟩ | ⟨_, rfl⟩
   ·exact h3.dis i e ad he had
   ·cases had
  ·exact ⟨h6.os, h6.tape, h6.output, h6.size, h6.keep, fun b hb => h6.grow b (ZS hb)⟩
theorem yc {X R : Type} {fresh : Bool} {inp : X → List AV} {pre : X → Prop} {post : X → R → Prop} {out : X → R → AV × Heap} {g : Nat} {c : Code} (hf : P.funcs[g]? = some fn) (hb : fn.body = some c) (hn : (fn.name == "runtime.NumGoroutine") = false)
  (H : ∀ x, pre x → ∀ (O : Nat → Prop) (w0 : World) (Q : AV × Heap → Prop), (∀ r, post x r → Q (out x r)) →
   zc P fn O 0 w0 [] (fun _ _ _ => False) (RetR (ctrP fresh inp pre post out) 0 (upQ Q)) [.code c] (entry fn (inp x))) : ze P g (ctrP fresh inp pre post out) := by
 intro args hc Q hq _
 simp only [ctrP] at hq
 split at hq
 ·obtain ⟨x, ⟨h1, h4⟩, h5, h6⟩ := hq
  refine qq.le h1 (qq.up (fn_k hf hb hn (fun h => rfl) fun O w0 σ0 hl => ?_))
  have h0 : σ0 = [] := List.length_eq_zero_iff.1 (by simpa using hl)
  subst h0
  exact H x h4 O w0 Q h6
 ·exact hq.elim
def upKV (d k : Nat) : KV → KV → Prop
 | [], [] => True
 | (i, a) :: l, (j, b) :: m => i = j ∧ upA2 d k a b ∧ upKV d k l m
 | _, _ => False
def upB (d k : Nat) : Blk → Blk → Prop
 | .box l, .box m => upL1 d k l m
 | a, b => a = b
def upH (d k : Nat) : Heap → Heap → Prop
 | [], [] => True
 | b :: l, c :: m => upB d k b c ∧ upH d k l m
 | _, _ => False
theorem QN {d k : Nat} : ∀ {l m : KV} (t : Nat), upKV d k l m → upA2 d k (look l t) (look m t)
 | [], [], t, _ => by simp [look, upA2, upA1, upA0]
 | (i, a) :: l, (j, b) :: m, t, h => by
  obtain ⟨rfl, h1, h2⟩ := h
  simp only [look]
  split
  ·exact h1
  ·exact QN t h2
 | [], _ :: _, _, h => h.elim
 | _ :: _, [], _, h => h.elim
theorem KL {d k : Nat} : ∀ {l m : Heap}, upH d k l m → l.length = m.length
 | [], [], _ => rfl
 | _ :: l, _ :: m, h => by simp [KL h.2]
 | [], _ :: _, h => h.elim
 | _ :: _, [], h => h.elim
theorem X5 {d k : Nat} : ∀ {l m : Heap} {i : Nat} {b' : Blk}, upH d k l m → m[i]? = some b' → ∃ b, l[i]? = some b ∧ upB d k b b'
 | b :: l, c :: m, 0, b', h, h1 => by simp at h1; subst h1; exact ⟨b, rfl, h.1⟩
 | b :: l, c :: m, i + 1, b', h, h1 => by simpa using X5 h.2 (by simpa using h1)
 | [], [], _, _, _, h1 => by simp at h1
 | [], _ :: _, _, _, h, _ => h.elim
 | _ :: _, [], _, _, h, _ => h.elim
theorem Yx {k : Nat} (hx : Ext own w own' w) {e : SE} {b b' : Blk} (hu : upB σ.length k b b') (hb : BRep own w σ e b) : BRep own' w (σ ++ j7 k) e b' := by
 unfold upB at hu
 split at hu
 ·simp only [BRep] at hb ⊢
  obtain ⟨ad, vs, el, h1, h2, h3, h4⟩ := hb
  exact ⟨ad, vs, el, h1, h2, h3, xG hx hu h4⟩
 ·subst hu
  have := qF (K := []) hx (wY [] w σ k) hb (fun _ _ => rfl)
  rwa [qO] at this
variable {pin : Nat} {w0 : World} {σ0 : List SE} {a : Act}
theorem up_mod {kv kv2 : KV} {h h2 : Heap} {n : Nat} (hm : Mod O pin w0 σ0 w σ (mk n kv h) a) {szs : List (Nat × (Nat → Nat → AV))} (hkv : upKV h.length szs.length kv kv2) (hh2 : upH h.length szs.length h h2) (hno : (pk n kv).all zA = true) (hno2 : (pk n kv2).all zA = true) : Mod O pin w0 σ0 w (σ ++ j7 szs.length) (mk n kv2 (h2 ++ kn szs)) a := by
 have hx : Ext (Own O σ) w (Own O (σ ++ j7 szs.length)) w := ⟨rfl, rfl, rfl, Nat.le_refl _, fun _ _ _ => rfl, fun b hb => .inl (u1 hb)⟩
 have hl : h.length = σ.length := hm.hp.len.symm
 rw [hl] at hkv hh2
 have hl2 := KL hh2
 refine ⟨⟨hm.good.old, fun i e ad he had => ?_, hm.good.stat.ext hx⟩, ?_, by simp [hm.size, mk, pk], fun u => ?_, hm.df.ext hx, hm.since.trans ⟨hx, fun _ _ _ => rfl, wx.of (wY [] w σ _) (by simp)⟩, hm.lim⟩
 ·rcases qH he with ⟨_, he⟩ | ⟨_, rfl⟩
  ·exact hm.good.dis i e ad he had
  ·cases had
 ·have hh := hm.hp
  refine ⟨by simp [mk, j7, kn, ← hl2, hl], fun i j e f x y he hf ha hb hij => ?_, fun i e x he ha => ?_, fun i e b he hb => ?_⟩
  ·rcases qH he with ⟨_, he⟩ | ⟨_, rfl⟩
   ·rcases qH hf with ⟨_, hf⟩ | ⟨_, rfl⟩
    ·exact hh.inj i j e f x y he hf ha hb hij
    ·cases hb
   ·cases ha
  ·rcases qH he with ⟨_, he⟩ | ⟨_, rfl⟩
   ·exact hh.lt i e x he ha
   ·cases ha
  ·simp only [mk] at hb
   rcases qH he with ⟨hi, he⟩ | ⟨hi, rfl⟩
   ·rw [List.getElem?_append_left (by omega)] at hb
    obtain ⟨b0, h1, h3⟩ := X5 hh2 hb
    exact Yx hx h3 (hh.blk i e b0 he h1)
   ·rw [List.getElem?_append_right (by omega)] at hb
    simp only [kn, List.getElem?_map] at hb
    cases hz : szs[i - h2.length]? with
    | none => simp [hz] at hb
    | some s =>
     simp only [hz, Option.map_some, Option.some.injEq] at hb
     subst hb
     exact ⟨rfl, .inl rfl⟩
 ·have hu := hm.tm u
  have key : ∀ (kv : KV) (h : Heap), (pk n kv).all zA = true → zA ((mk n kv h).tmps.getD u .undef) = true := by
   intro kv h hno
   by_cases hlt : u < (mk n kv h).tmps.length
   ·simp only [List.getD, List.getElem?_eq_getElem hlt, Option.getD_some]
    exact List.all_eq_true.1 hno _ (List.getElem_mem hlt)
   ·simp only [List.getD]
    rw [List.getElem?_eq_none (by omega)]; rfl
  have n1 := key kv h hno
  have n2 := key kv2 (h2 ++ kn szs) hno2
  have hr : Rep (Own O σ) w ((mk n kv h).tmps.getD u .undef) σ (a.tmps.getD u undef) := by
   generalize (mk n kv h).tmps.getD u .undef = x at hu n1
   cases x with
   | opt _ _ _ => simp [zA] at n1
   | _ => simpa only [TRep] using hu
  have hup : upA2 σ.length szs.length ((mk n kv h).tmps.getD u .undef) ((mk n kv2 (h2 ++ kn szs)).tmps.getD u .undef) := by
   by_cases hlt : u < n
   ·simp only [mk]
    rw [vf hlt, vf hlt]
    exact QN u hkv
   ·simp [mk, pk, List.getD, hlt, upA2, upA1, upA0]
  have := QX hx hup hr
  generalize (mk n kv2 (h2 ++ kn szs)).tmps.getD u .undef = y at this n2
  cases y with
  | opt _ _ _ => simp [zA] at n2
  | _ => simpa only [TRep] using this
theorem zc.up {M : Option Nat} {Hs : Nat → KV → Heap → Prop} {R : List AV → Heap → Prop} {k : List Item} {kv : KV} {h : Heap} (szs : List (Nat × (Nat → Nat → AV))) (kv2 : KV) (h2 : Heap) (hkv : upKV h.length szs.length kv kv2) (hh2 : upH h.length szs.length h h2) (hno : (pk fn.ntmps kv).all zA = true) (hno2 : (pk fn.ntmps kv2).all zA = true)
  (H : qi M P fn O pin w0 σ0 Hs R k (mk fn.ntmps kv2 (h2 ++ kn szs))) : qi M P fn O pin w0 σ0 Hs R k (mk fn.ntmps kv h) :=
 fun w σ a hm => H w _ a (up_mod hm hkv hh2 hno hno2)
theorem RetR.outs {ctr : Ctr} {Q : AV × Heap → Prop} {rs : List AV} {h : Heap} {r : AV} {hs : Heap} (L : List Nat) (hnd : jP L = true) (hlt : (L.all fun i => decide (i < h.length)) = true) (hq : Q (r, hs)) (hn : ctr.fresh = true → new2 h L (resV rs) ∧ ∀ i ∈ L, newB (h.getD i .dead))
  (he : eqA2 (exp2 h L (resV rs)) r) (hb : eqH (expH h L) hs) (hl : hs.length = L.length) : RetR ctr 0 Q rs h :=
 ⟨L, hnd, fun i hi => by have := List.all_eq_true.1 hlt i hi; simpa using this, by simp, hn, r, hs, qf he, hb, hl, hq⟩
theorem RetR.keep {ctr : Ctr} {m : Nat} {Q : AV × Heap → Prop} {rs : List AV} {h : Heap} {r : AV} {hs : Heap} (L : List Nat) (hnd : jP L = true) (hlt : (L.all fun i => decide (i < h.length)) = true) (hj : ∀ j, j < m → L[j]? = some j) (hf : ctr.fresh = false) (hq : Q (r, hs))
  (he : eqA2 (exp2 h L (resV rs)) r) (hb : eqH (expH h L) hs) (hl : hs.length = L.length) : RetR ctr m Q rs h :=
 ⟨L, hnd, fun i hi => by have := List.all_eq_true.1 hlt i hi; simpa using this, hj, (fun hh => absurd hh (by rw [hf]; decide)), r, hs, qf he, hb, hl, hq⟩
end
end Go.Sx
end

/- Arguments that say no less than a contract asks. -/
section
namespace Go.Sx
variable [Stat]
section
variable {P : Program}
theorem Jm (a : AV) : eqA0 a a := by
 cases a <;> simp [eqA0]
 exact fun _ _ _ _ => rfl
theorem uc : ∀ l : List AV, eqL0 l l
 | [] => trivial
 | a :: l => ⟨Jm a, uc l⟩
theorem UI (a : AV) : eqA a a := by
 cases a with
 | agg l => exact uc l
 | tup l => exact uc l
 | _ => unfold eqA; exact Jm _
theorem ZV : ∀ l : List AV, eqL l l
 | [] => trivial
 | a :: l => by
  unfold eqL
  split
  ·rename_i h1 h2; cases h1
  ·rename_i h1 h2; cases h1; cases h2; exact ZV l
  ·rename_i h1 h2; cases h1; cases h2; exact ⟨UI _, ZV l⟩
  ·rename_i hx; exact (hx _ _ _ _ rfl rfl).elim
end
end Go.Sx
end

/- A contract that is the callee's own run: for small functions without loops. -/
section
namespace Go.Sx
variable [Stat]
section
variable {P : Program} {Γ : Nat → Option Ctr} {fn : Func}
def inlC (P : Program) (Γ : Nat → Option Ctr) (n : Nat) (fn : Func) : Ctr where
 fresh := false
 spec args hc := match fn.body with
  | some c => (run P Γ hc.length n [.code c] (ka fn args hc)).bind fun lf => match lf with
   | .ret st => (resX P st fn.results.toList).bind fun rs => bif decide (hc.length ≤ st.heap.length) then .leaf (exp2 st.heap (List.range st.heap.length) (resV rs), expH st.heap (List.range st.heap.length)) else .fail
   | _ => .fail
  | none => .fail
theorem nodup_range' : ∀ (n s : Nat), jP (List.range' s n) = true
 | 0, _ => rfl
 | n + 1, s => by
  rw [List.range'_succ]
  simp only [jP, Bool.and_eq_true]
  refine ⟨?_, nodup_range' n (s + 1)⟩
  simp [List.contains_eq_mem, List.mem_range'_1]
theorem Yh (b : Blk) : eqB b b := by
 cases b with
 | dead => trivial
 | box l => exact ZV l
 | arr n sz g => exact ⟨rfl, rfl, fun _ _ _ _ => rfl⟩
 | arrI k n f => exact ⟨rfl, fun _ _ _ _ => rfl⟩
 | arrS n f => exact ⟨rfl, fun _ _ _ _ => rfl⟩
 | map ag sh has get pe => exact ⟨⟨rfl, .inr rfl⟩, rfl, fun _ => rfl, fun _ _ => rfl⟩
theorem XY (h : Heap) : eqH h h := by
 induction h with
 | nil => trivial
 | cons b l ih => exact ⟨Yh b, ih⟩
theorem xB {g n : Nat} (hmix : P.follows .mixedOrders = true) (hΓ : ∀ g c, Γ g = some c → ze P g c) (hf : P.funcs[g]? = some fn) (hn : (fn.name == "runtime.NumGoroutine") = false) : ze P g (inlC P Γ n fn) := by
 intro args hc Q hq hfr
 simp only [inlC] at hq
 cases hb : fn.body with
 | none => rw [hb] at hq; exact hq.elim
 | some c =>
  rw [hb] at hq
  simp only [Tree.zl] at hq
  refine zel hf hb hn hfr fun O w0 σ0 hl => Safe.run hmix hΓ n (Tree.zN (fun lf h => ?_) hq)
  cases lf with
  | ret st =>
   simp only [Tree.zl] at h
   refine Tree.zN (fun rs h => ?_) h
   cases hd : decide (hc.length ≤ st.heap.length) with
   | false => rw [hd] at h; exact h.elim
   | true =>
    rw [hd] at h
    have h : Q (exp2 st.heap (List.range st.heap.length) (resV rs), expH st.heap (List.range st.heap.length)) := h
    have hd := of_decide_eq_true hd
    exact ⟨List.range st.heap.length, by rw [List.range_eq_range']; exact nodup_range' _ _, fun i hi => List.mem_range.1 hi, fun j hj => by rw [List.getElem?_range (by omega)], fun h => (by cases h), _, _, LeA.refl _, XY _, by simp [expH], h⟩
  | _ => exact h.elim
end
end Go.Sx
end

/- Orders of what is known. -/
section
namespace Go.Nov
open Go.Sx
def cmpS (s t : List UInt8) : Int := if Op.bytesLess s t then -1 else if s = t then 0 else 1
def cmpI (x y : Int) : Int := if x < y then -1 else if y < x then 1 else 0
def orI : List Int → Int
 | [] => 0
 | x :: l => if x = 0 then orI l else x
structure Fx where
 name : List UInt8
 date : Int
 value : List UInt8
structure Ch where
 zb : List UInt8
 name : List UInt8
 date : Int
 first : Bool
abbrev Fx.nil : Fx := ⟨[], 0, []⟩
abbrev Ch.nil : Ch := ⟨[], [], 0, false⟩
def Fx.cell (f : Fx) : Nat → AV
 | 0 => .str f.name
 | 1 => .int .i64 f.date
 | 2 => .str f.value
 | _ => .undef
def Ch.cell (c : Ch) : Nat → AV
 | 0 => .str c.zb
 | 1 => .str c.name
 | 2 => .int .i64 c.date
 | 3 => .bool c.first
 | _ => .undef
def fxG (l : List Fx) : Nat → Nat → AV := fun j => (l.getD j Fx.nil).cell
def chG (l : List Ch) : Nat → Nat → AV := fun j => (l.getD j Ch.nil).cell
def Fx.av (f : Fx) : AV := .agg [.str f.name, .int .i64 f.date, .str f.value]
def Ch.av (c : Ch) : AV := .agg [.str c.zb, .str c.name, .int .i64 c.date, .bool c.first]
def fxS (l : List Fx) : AV := .sl l.length 3 (fxG l)
def chS (l : List Ch) : AV := .sl l.length 4 (chG l)
def envA (f : List Fx) (c : List Ch) : AV := .agg [fxS f, chS c]
def cmpF (a b : Fx) : Int := if cmpS a.name b.name = 0 then cmpI a.date b.date else cmpS a.name b.name
def cmpC (a b : Ch) : Int := if cmpS a.zb b.zb = 0 then (if cmpS a.name b.name = 0 then cmpI a.date b.date else cmpS a.name b.name) else cmpS a.zb b.zb
end Go.Nov
namespace Go.Nov
def okF (f : Fx) : Bool := zu f.name && dayB f.date && decide (errR f.value = 0)
def okC (c : Ch) : Bool := zu c.zb && zu c.name && dayB c.date
def idxB {α : Type} (p : α → Bool) (l : List α) : Int := if l.findIdx p < l.length then (l.findIdx p : Int) else -1
theorem Wo {α : Type} (p : α → Bool) (l : List α) : decide (0 ≤ idxB p l) = l.any p := by
 unfold idxB
 by_cases h : l.findIdx p < l.length
 ·rw [if_pos h]
  have : l.any p = true := by
   rw [List.any_eq_true]
   exact ⟨_, List.getElem_mem h, List.findIdx_getElem (w := h)⟩
  rw [this]; simp
 ·rw [if_neg h]
  have : l.any p = false := by
   rw [List.any_eq_false]
   intro x hx hpx
   exact h (List.findIdx_lt_length_of_exists ⟨x, hx, hpx⟩)
  rw [this]; rfl
theorem yz {α : Type} {p : α → Bool} {l : List α} {z : α} {i : Nat} (hi : i < l.length) (h : p (l.getD i z) = true) (hb : ∀ j, j < i → p (l.getD j z) = false) : idxB p l = i := by
 have hlt : l.findIdx p < l.length := List.findIdx_lt_length_of_exists ⟨l[i], List.getElem_mem hi, by simpa [List.getD, hi] using h⟩
 have e : l.findIdx p = i := by
  rcases Nat.lt_trichotomy (l.findIdx p) i with h1 | h1 | h1
  ·have h2 := List.findIdx_getElem (w := hlt)
   have h3 := hb _ h1
   simp only [List.getD, List.getElem?_eq_getElem hlt, Option.getD_some] at h3
   rw [h2] at h3; cases h3
  ·exact h1
  ·have h2 := List.not_of_lt_findIdx h1
   simp only [List.getD, List.getElem?_eq_getElem hi, Option.getD_some] at h
   exact absurd h (by simpa using h2)
 unfold idxB
 rw [if_pos hlt, e]
theorem v8 {α : Type} {p : α → Bool} {l : List α} {z : α} (hb : ∀ j, j < l.length → p (l.getD j z) = false) : idxB p l = -1 := by
 unfold idxB
 rw [if_neg]
 intro h
 have h2 := List.findIdx_getElem (w := h)
 have h3 := hb _ h
 simp only [List.getD, List.getElem?_eq_getElem h, Option.getD_some] at h3
 rw [h2] at h3; cases h3
end Go.Nov
namespace Go.Nov
def ordB {α : Type} (c : α → α → Int) (z : α) (l : List α) : Bool := (List.range (l.length - 1)).all fun i => decide (c (l.getD i z) (l.getD (i + 1) z) < 0)
theorem kG {α : Type} {c : α → α → Int} {z : α} {l : List α} (h : ∀ j, j + 1 < l.length → c (l.getD j z) (l.getD (j + 1) z) < 0) : ordB c z l = true := by
 simp only [ordB, List.all_eq_true, List.mem_range, decide_eq_true_eq]
 exact fun j hj => h j (by omega)
theorem xX {α : Type} {c : α → α → Int} {z : α} {l : List α} {j : Nat} (hj : j + 1 < l.length) (h : ¬ c (l.getD j z) (l.getD (j + 1) z) < 0) : ordB c z l = false := by
 simp only [ordB, List.all_eq_false, List.mem_range]
 exact ⟨j, by omega, by simpa using h⟩
def errE (f : List Fx) (c : List Ch) : Int := if 1000 < f.length ∨ 1000 < c.length then 4 else if (f.all okF && c.all okC && ordB cmpF Fx.nil f && ordB cmpC Ch.nil c) = true then 0 else 8
end Go.Nov
namespace Go.Nov
theorem Wg {x y : Int} : cmpI x y < 0 ↔ x < y := by
 unfold cmpI
 split
 ·rename_i h; exact ⟨fun _ => h, fun _ => by decide⟩
 ·rename_i h
  split
  ·exact ⟨fun h2 => by omega, fun h2 => absurd h2 h⟩
  ·exact ⟨fun h2 => by omega, fun h2 => absurd h2 h⟩
theorem uI {s t : List UInt8} {n : Int} {b : Bool} (hb : b = decide (n < 0)) : (bif Op.bytesLess s t then true else bif decide (s = t) then b else false) = decide ((if cmpS s t = 0 then n else cmpS s t) < 0) := by
 unfold cmpS
 cases Op.bytesLess s t with
 | true => rfl
 | false =>
  by_cases h : s = t
  ·simp [h, hb]
  ·simp [h]
end Go.Nov
namespace Go.Nov
theorem Fx.eq_iff {a b : Fx} : (decide (a.name = b.name) && (decide (a.date = b.date) && (decide (a.value = b.value) && true))) = true ↔ a = b := by
 cases a; cases b
 simp [Fx.mk.injEq]
theorem Ch.eq_iff {a b : Ch} : (decide (a.zb = b.zb) && (decide (a.name = b.name) && (decide (a.date = b.date) && ((a.first == b.first) && true)))) = true ↔ a = b := by
 cases a; cases b
 simp [Ch.mk.injEq]
theorem W3 {α : Type} {l m : List α} {z : α} (hl : l.length = m.length) (h : ∀ j, j < l.length → l.getD j z = m.getD j z) : l = m := by
 apply List.ext_getElem hl
 intro j h1 h2
 have := h j h1
 simpa [List.getD, h1, h2] using this
end Go.Nov
end

/- A place in an ordered list. -/
section
namespace Go.Nov
open Go.Sx
theorem JJ : ∀ s : List UInt8, Op.bytesLess s s = false
 | [] => rfl
 | a :: s => by simp [Op.bytesLess, JJ s]
theorem yv : ∀ {s t u : List UInt8}, Op.bytesLess s t = true → Op.bytesLess t u = true → Op.bytesLess s u = true
 | s, [], u, h, _ => by cases s <;> simp [Op.bytesLess] at h
 | [], b :: t, [], _, h => by simp [Op.bytesLess] at h
 | [], b :: t, c :: u, _, _ => rfl
 | a :: s, b :: t, [], _, h => by simp [Op.bytesLess] at h
 | a :: s, b :: t, c :: u, h, k => by
  simp only [Op.bytesLess, Bool.or_eq_true, Bool.and_eq_true, decide_eq_true_eq, beq_iff_eq] at h k ⊢
  rcases h with h | ⟨rfl, h⟩
  ·rcases k with k | ⟨rfl, k⟩
   ·exact .inl (UInt8.lt_trans h k)
   ·exact .inl h
  ·rcases k with k | ⟨rfl, k⟩
   ·exact .inl k
   ·exact .inr ⟨rfl, yv h k⟩
theorem Jw {s t : List UInt8} : cmpS s t < 0 ↔ Op.bytesLess s t = true := by
 unfold cmpS
 cases Op.bytesLess s t with
 | true => simp
 | false => by_cases h : s = t <;> simp [h]
theorem ji {s t : List UInt8} : cmpS s t = 0 ↔ s = t := by
 unfold cmpS
 cases hb : Op.bytesLess s t with
 | true =>
  simp only [if_true]
  refine ⟨fun h => by omega, fun h => ?_⟩
  subst h; rw [JJ] at hb; cases hb
 | false => by_cases h : s = t <;> simp [h]
theorem KQ {x y : Int} : cmpI x y = 0 ↔ x = y := by
 unfold cmpI
 split
 ·exact ⟨fun h => by omega, fun h => by omega⟩
 ·split
  ·exact ⟨fun h => by omega, fun h => by omega⟩
  ·exact ⟨fun _ => by omega, fun _ => rfl⟩
theorem vM {a b : Fx} : cmpF a b = 0 ↔ a.name = b.name ∧ a.date = b.date := by
 unfold cmpF
 by_cases h : cmpS a.name b.name = 0
 ·rw [if_pos h, KQ]; exact ⟨fun h2 => ⟨ji.1 h, h2⟩, fun h2 => h2.2⟩
 ·rw [if_neg h]; exact ⟨fun h2 => absurd h2 h, fun h2 => absurd (ji.2 h2.1) h⟩
theorem xc {a b : Fx} : cmpF a b < 0 ↔ Op.bytesLess a.name b.name = true ∨ a.name = b.name ∧ a.date < b.date := by
 unfold cmpF
 by_cases h : cmpS a.name b.name = 0
 ·rw [if_pos h, Wg]
  have h2 := ji.1 h
  rw [h2, JJ]
  simp
 ·rw [if_neg h, Jw]
  exact ⟨fun h2 => .inl h2, fun h2 => h2.elim id fun h3 => absurd (ji.2 h3.1) h⟩
theorem ki {a b : Ch} : cmpC a b = 0 ↔ a.zb = b.zb ∧ a.name = b.name ∧ a.date = b.date := by
 unfold cmpC
 by_cases h : cmpS a.zb b.zb = 0
 ·rw [if_pos h]
  have h1 := ji.1 h
  by_cases h' : cmpS a.name b.name = 0
  ·rw [if_pos h', KQ]; exact ⟨fun h2 => ⟨h1, ji.1 h', h2⟩, fun h2 => h2.2.2⟩
  ·rw [if_neg h']; exact ⟨fun h2 => absurd h2 h', fun h2 => absurd (ji.2 h2.2.1) h'⟩
 ·rw [if_neg h]; exact ⟨fun h2 => absurd h2 h, fun h2 => absurd (ji.2 h2.1) h⟩
theorem y9 {a b : Ch} : cmpC a b < 0 ↔ Op.bytesLess a.zb b.zb = true ∨ a.zb = b.zb ∧ (Op.bytesLess a.name b.name = true ∨ a.name = b.name ∧ a.date < b.date) := by
 unfold cmpC
 by_cases h : cmpS a.zb b.zb = 0
 ·rw [if_pos h]
  have h1 := ji.1 h
  rw [h1, JJ]
  have := @xc ⟨a.name, a.date, []⟩ ⟨b.name, b.date, []⟩
  simp only [cmpF] at this
  simpa using this
 ·rw [if_neg h, Jw]
  exact ⟨fun h2 => .inl h2, fun h2 => h2.elim id fun h3 => absurd (ji.2 h3.1) h⟩
structure OrdK {α : Type} (c : α → α → Int) : Prop where
 lt : ∀ a b d, c a b < 0 → c b d < 0 → c a d < 0
 eq : ∀ a b d, c a b < 0 → c b d = 0 → c a d < 0
theorem ue : OrdK cmpF where
 lt a b d h k := by
  rw [xc] at *
  rcases h with h | ⟨h1, h2⟩
  ·rcases k with k | ⟨k1, k2⟩
   ·exact .inl (yv h k)
   ·rw [k1] at h; exact .inl h
  ·rcases k with k | ⟨k1, k2⟩
   ·rw [← h1] at k; exact .inl k
   ·exact .inr ⟨h1.trans k1, by omega⟩
 eq a b d h k := by
  rw [vM] at k
  rw [xc] at *
  rw [k.1, k.2] at h
  exact h
theorem uB : OrdK cmpC where
 lt a b d h k := by
  rw [y9] at *
  rcases h with h | ⟨h0, h⟩
  ·rcases k with k | ⟨k0, k⟩
   ·exact .inl (yv h k)
   ·rw [k0] at h; exact .inl h
  ·rcases k with k | ⟨k0, k⟩
   ·rw [← h0] at k; exact .inl k
   ·refine .inr ⟨h0.trans k0, ?_⟩
    rcases h with h | ⟨h1, h2⟩
    ·rcases k with k | ⟨k1, k2⟩
     ·exact .inl (yv h k)
     ·rw [k1] at h; exact .inl h
    ·rcases k with k | ⟨k1, k2⟩
     ·rw [← h1] at k; exact .inl k
     ·exact .inr ⟨h1.trans k1, by omega⟩
 eq a b d h k := by
  rw [ki] at k
  rw [y9] at *
  rw [k.1, k.2.1, k.2.2] at h
  exact h
section
variable {α : Type} {c : α → α → Int} {z x : α}
def zo (c : α → α → Int) (x : α) : List α → List α
 | [] => [x]
 | o :: l => if c o x < 0 then o :: zo c x l else if c o x = 0 then x :: l else x :: o :: l
def refL (c : α → α → Int) (x : α) : Bool → List α → List α
 | put, [] => if put then [] else [x]
 | put, o :: l => (if put = false ∧ ¬ c o x < 0 then [x] else []) ++ ((if c o x = 0 then [] else [o]) ++ refL c x (put || !decide (c o x < 0)) l)
theorem vX (hk : OrdK c) : ∀ {l : List α}, ordB c z l = true → l.Pairwise fun a b => c a b < 0
 | [], _ => .nil
 | [a], _ => by simp
 | a :: b :: l, h => by
  have h1 : c a b < 0 := by
   simp only [ordB, List.all_eq_true, List.mem_range, decide_eq_true_eq] at h
   have := h 0 (by simp)
   simpa using this
  have h2 : ordB c z (b :: l) = true := by
   simp only [ordB, List.all_eq_true, List.mem_range, decide_eq_true_eq] at h ⊢
   intro i hi
   have := h (i + 1) (by simp at hi ⊢; omega)
   simpa using this
  have ih := vX hk h2
  refine List.pairwise_cons.2 ⟨fun y hy => ?_, ih⟩
  rcases List.mem_cons.1 hy with rfl | hy
  ·exact h1
  ·exact hk.lt _ _ _ h1 (List.rel_of_pairwise_cons ih hy)
theorem Jk : ∀ {l : List α}, (∀ y ∈ l, c y x ≠ 0) → refL c x true l = l
 | [], _ => rfl
 | o :: l, h => by
  simp only [refL]
  rw [if_neg (by simp), if_neg (h o (by simp)), Bool.true_or, Jk fun y hy => h y (by simp [hy])]
  rfl
theorem xM (hk : OrdK c) : ∀ {l : List α}, l.Pairwise (fun a b => c a b < 0) → refL c x false l = zo c x l
 | [], _ => rfl
 | o :: l, h => by
  have hr := fun y hy => List.rel_of_pairwise_cons h (a := o) (a' := y) hy
  have ih := xM hk (List.pairwise_cons.1 h).2
  simp only [refL, zo, Bool.false_or]
  by_cases h1 : c o x < 0
  ·rw [if_neg (by simp [h1]), if_neg (by omega), if_pos h1, decide_eq_true h1, Bool.not_true, ih]; rfl
  ·have hne : ∀ y ∈ l, c y x ≠ 0 := fun y hy h0 => h1 (hk.eq _ _ _ (hr y hy) h0)
   rw [if_pos ⟨trivial, h1⟩, decide_eq_false h1, Bool.not_false, Jk hne, if_neg h1]
   by_cases h2 : c o x = 0
   ·rw [if_pos h2, if_pos h2]; rfl
   ·rw [if_neg h2, if_neg h2]; rfl
theorem uy (hk : OrdK c) : ∀ {l : List α} {k : Nat}, l.Pairwise (fun a b => c a b < 0) → k < l.length → c (l.getD k z) x = 0 → l.set k x = zo c x l
 | [], k, _, h, _ => by simp at h
 | o :: l, 0, _, _, h => by
  simp only [List.getD_cons_zero] at h
  simp only [List.set_cons_zero, zo]
  rw [if_neg (by omega), if_pos h]
 | o :: l, k + 1, hp, hl, h => by
  simp only [List.getD_cons_succ] at h
  have hl : k < l.length := by simpa using hl
  have ih := uy hk (List.pairwise_cons.1 hp).2 hl h
  have ho : c o (l.getD k z) < 0 := List.rel_of_pairwise_cons hp (by simp [List.getD, hl])
  simp only [List.set_cons_succ, zo]
  rw [if_pos (hk.eq _ _ _ ho h), ih]
theorem yZ : ∀ {l : List α} {i : Nat}, (∀ j, j < l.length → c (l.getD j z) x ≠ 0) → (∀ j, j < i → c (l.getD j z) x < 0) → i ≤ l.length → (i < l.length → ¬ c (l.getD i z) x < 0) → l.take i ++ x :: l.drop i = zo c x l
 | [], i, _, _, hi, _ => by
  have : i = 0 := by simpa using hi
  subst this; rfl
 | o :: l, 0, h0, _, _, h => by
  have h1 := h (by simp)
  have h2 := h0 0 (by simp)
  simp only [List.getD_cons_zero] at h1 h2
  simp only [zo]
  rw [if_neg h1, if_neg h2]; rfl
 | o :: l, i + 1, h0, hb, hi, h => by
  have h1 := hb 0 (by omega)
  simp only [List.getD_cons_zero] at h1
  have ih := yZ (l := l) (i := i) (fun j hj => by have := h0 (j + 1) (by simp; omega); simpa using this) (fun j hj => by have := hb (j + 1) (by omega); simpa using this) (by simpa using hi) (fun hlt => by have := h (by simp; omega); simpa using this)
  simp only [zo]
  rw [if_pos h1, ← ih]; rfl
end
theorem zbd {α : Type} {p : α → Bool} {z : α} {l : List α} (h : ∀ j, j < l.length → p (l.getD j z) = true) : l.all p = true := by
 rw [List.all_eq_true]
 intro x hx
 obtain ⟨j, hj, rfl⟩ := List.getElem_of_mem hx
 have := h j hj
 simpa [List.getD, hj] using this
theorem Xv {α : Type} {p : α → Bool} {z : α} {l : List α} {j : Nat} (hj : j < l.length) (h : p (l.getD j z) = false) : l.all p = false := by
 rw [List.all_eq_false]
 exact ⟨l[j], List.getElem_mem hj, by simpa [List.getD, hj] using h⟩
theorem zae {f : List Fx} {c : List Ch} (hb : ¬ (1000 < f.length ∨ 1000 < c.length)) (h : (f.all okF && c.all okC && ordB cmpF Fx.nil f && ordB cmpC Ch.nil c) = false) : errE f c = 8 := by
 unfold errE
 rw [if_neg hb, if_neg (by rw [h]; simp)]
theorem kh {f : List Fx} {c : List Ch} : errE f c = 0 ↔ ¬ (1000 < f.length ∨ 1000 < c.length) ∧ f.all okF = true ∧ c.all okC = true ∧ ordB cmpF Fx.nil f = true ∧ ordB cmpC Ch.nil c = true := by
 unfold errE
 by_cases hb : 1000 < f.length ∨ 1000 < c.length
 ·rw [if_pos hb]; simp [hb]
 ·rw [if_neg hb]
  by_cases h : (f.all okF && c.all okC && ordB cmpF Fx.nil f && ordB cmpC Ch.nil c) = true
  ·rw [if_pos h]
   simp only [Bool.and_eq_true] at h
   exact ⟨fun _ => ⟨hb, h.1.1.1, h.1.1.2, h.1.2, h.2⟩, fun _ => rfl⟩
  ·rw [if_neg h]
   refine ⟨fun h2 => by omega, fun h2 => absurd ?_ h⟩
   simp [h2.2.1, h2.2.2.1, h2.2.2.2.1, h2.2.2.2.2]
theorem zdh {α : Type} {p : α → Bool} {l : List α} {z : α} {i : Nat} (hi : i < l.length) (h : p (l.getD i z) = true) (hb : ∀ j, j < i → p (l.getD j z) = false) : l.find? p = some (l.getD i z) := by
 induction l generalizing i with
 | nil => simp at hi
 | cons a l ih =>
  cases i with
  | zero => simp only [List.getD_cons_zero] at h ⊢; simp [h]
  | succ i =>
   have h0 := hb 0 (by omega)
   simp only [List.getD_cons_zero, List.getD_cons_succ] at h h0 ⊢
   rw [List.find?_cons, h0]
   exact ih (by simpa using hi) h fun j hj => by have := hb (j + 1) (by omega); simpa using this
def putF (f : List Fx) (c : List Ch) (x : Fx) : (List Fx × List Ch) × Int :=
 if errE f c ≠ 0 then (([], []), errE f c) else if (zu x.name && dayB x.date) = false then (([], []), 2) else if errR x.value ≠ 0 then (([], []), errR x.value)
 else if 1000 < (zo cmpF x f).length then (([], []), 22) else ((zo cmpF x f, c), 0)
def putC (f : List Fx) (c : List Ch) (x : Ch) : (List Fx × List Ch) × Int :=
 if errE f c ≠ 0 then (([], []), errE f c) else if okC x = false then (([], []), 2)
 else if 1000 < (zo cmpC x c).length then (([], []), 22) else ((f, zo cmpC x c), 0)
end Go.Nov
end

/- Lists of what is known, as slices: pushed, set, put in between. -/
section
namespace Go.Nov
open Go.Sx
theorem Fx.v7 (x : Fx) {j o : Nat} (hj : j < 1) (ho : o < 3) : zg (zf 3 [.str x.name, .int .i64 x.date, .str x.value]) 0 j o = x.cell o := by
 have : j = 0 := by omega
 subst this
 rcases o with _ | _ | _ | o
 ·rfl
 ·rfl
 ·rfl
 ·omega
theorem Ch.v7 (x : Ch) {j o : Nat} (hj : j < 1) (ho : o < 4) : zg (zf 4 [.str x.zb, .str x.name, .int .i64 x.date, .bool x.first]) 0 j o = x.cell o := by
 have : j = 0 := by omega
 subst this
 rcases o with _ | _ | _ | _ | o
 ·rfl
 ·rfl
 ·rfl
 ·rfl
 ·omega
theorem xk {α : Type} (l : List α) (x z : α) (j : Nat) : (l ++ [x]).getD j z = if j < l.length then l.getD j z else if j = l.length then x else z := by
 simp only [List.getD, List.getElem?_append]
 split
 ·rfl
 ·rename_i h
  split
  ·rename_i h2; subst h2; simp
  ·rename_i h2
   have : j - l.length ≠ 0 := by omega
   obtain ⟨k, hk⟩ := Nat.exists_eq_succ_of_ne_zero this
   rw [hk]; simp
theorem yA {l : List Fx} {x : Fx} {g : Nat → Nat → AV} (hg : eqG l.length 3 g (fxG l)) : eqG (l.length + 1) 3 (appG l.length g (zg (zf 3 [.str x.name, .int .i64 x.date, .str x.value]) 0)) (fxG (l ++ [x])) := by
 intro j o hj ho
 simp only [appG, fxG, xk]
 split
 ·rename_i h; exact hg j o h ho
 ·rename_i h
  have : j = l.length := by omega
  subst this
  rw [if_pos rfl, Fx.v7 x (by omega) ho]
theorem yy {l : List Ch} {x : Ch} {g : Nat → Nat → AV} (hg : eqG l.length 4 g (chG l)) : eqG (l.length + 1) 4 (appG l.length g (zg (zf 4 [.str x.zb, .str x.name, .int .i64 x.date, .bool x.first]) 0)) (chG (l ++ [x])) := by
 intro j o hj ho
 simp only [appG, chG, xk]
 split
 ·rename_i h; exact hg j o h ho
 ·rename_i h
  have : j = l.length := by omega
  subst this
  rw [if_pos rfl, Ch.v7 x (by omega) ho]
theorem zfy {l : List Fx} {x : Fx} {k : Nat} (hk : k < l.length) : eqG l.length 3 (updG (fxG l) k 0 [.str x.name, .int .i64 x.date, .str x.value]) (fxG (l.set k x)) := by
 intro j o hj ho
 simp only [updG, fxG]
 by_cases h : j = k
 ·subst h
  rw [if_pos ⟨rfl, Nat.zero_le _, by simpa using ho⟩]
  have : (l.set j x).getD j Fx.nil = x := by simp [List.getD, hk]
  rw [this]
  rcases o with _ | _ | _ | o
  ·rfl
  ·rfl
  ·rfl
  ·omega
 ·rw [if_neg (fun h2 => h h2.1)]
  have : (l.set k x).getD j Fx.nil = l.getD j Fx.nil := by simp [List.getD, List.getElem?_set, Ne.symm h]
  rw [this]
theorem zfq {l : List Ch} {x : Ch} {k : Nat} (hk : k < l.length) : eqG l.length 4 (updG (chG l) k 0 [.str x.zb, .str x.name, .int .i64 x.date, .bool x.first]) (chG (l.set k x)) := by
 intro j o hj ho
 simp only [updG, chG]
 by_cases h : j = k
 ·subst h
  rw [if_pos ⟨rfl, Nat.zero_le _, by simpa using ho⟩]
  have : (l.set j x).getD j Ch.nil = x := by simp [List.getD, hk]
  rw [this]
  rcases o with _ | _ | _ | _ | o
  ·rfl
  ·rfl
  ·rfl
  ·rfl
  ·omega
 ·rw [if_neg (fun h2 => h h2.1)]
  have : (l.set k x).getD j Ch.nil = l.getD j Ch.nil := by simp [List.getD, List.getElem?_set, Ne.symm h]
  rw [this]
theorem vA (n sz : Nat) (g g' : Nat → Nat → AV) : eqG (0 + n) sz (appG 0 g g') g' := by
 intro j o _ _
 simp [appG]
theorem qW (n sz : Nat) (g : Nat → Nat → AV) : eqG n sz (zg g 0) g := by
 intro j o _ _
 simp [zg]
theorem kY (l : List Fx) (j o : Nat) (ho : o < 3) : zD (fxG l j o) = true := by
 simp only [fxG]
 rcases o with _ | _ | _ | o
 ·rfl
 ·rfl
 ·rfl
 ·omega
theorem kZ (l : List Ch) (j o : Nat) (ho : o < 4) : zD (chG l j o) = true := by
 simp only [chG]
 rcases o with _ | _ | _ | _ | o
 ·rfl
 ·rfl
 ·rfl
 ·rfl
 ·omega
theorem YP (o x : Fx) : (bif !decide (o.name = x.name) then true else !decide (o.date = x.date)) = !decide (cmpF o x = 0) := by
 have : decide (cmpF o x = 0) = (decide (o.name = x.name) && decide (o.date = x.date)) := by
  rw [← Bool.decide_and]; exact decide_eq_decide.2 vM
 rw [this]
 cases decide (o.name = x.name) <;> cases decide (o.date = x.date) <;> rfl
theorem Yf (o x : Ch) : (bif bif !decide (o.zb = x.zb) then true else !decide (o.name = x.name) then true else !decide (o.date = x.date)) = !decide (cmpC o x = 0) := by
 have : decide (cmpC o x = 0) = (decide (o.zb = x.zb) && (decide (o.name = x.name) && decide (o.date = x.date))) := by
  rw [← Bool.decide_and, ← Bool.decide_and]; exact decide_eq_decide.2 ki
 rw [this]
 cases decide (o.zb = x.zb) <;> cases decide (o.name = x.name) <;> cases decide (o.date = x.date) <;> rfl
theorem Vr {α : Type} {c : α → α → Int} {x z : α} {put : Bool} {f : List α} {i : Nat} (hi : i < f.length) : refL c x put (f.drop i) = (if put = false ∧ ¬ c (f.getD i z) x < 0 then [x] else []) ++ ((if c (f.getD i z) x = 0 then [] else [f.getD i z]) ++ refL c x (put || !decide (c (f.getD i z) x < 0)) (f.drop (i + 1))) := by
 have hd : f.drop i = f.getD i z :: f.drop (i + 1) := by
  rw [List.drop_eq_getElem_cons hi]; simp [List.getD, hi]
 rw [hd]
 simp only [refL]
theorem QH {α : Type} {p : α → Bool} (z : α) (l : List α) : idxB p l < l.length ∧ l.find? p = if 0 ≤ idxB p l then some (l.getD (idxB p l).toNat z) else none := by
 unfold idxB
 by_cases h : l.findIdx p < l.length
 ·rw [if_pos h]
  refine ⟨by omega, ?_⟩
  rw [if_pos (by omega), Int.toNat_natCast]
  refine zdh h ?_ fun j hj => ?_
  ·have := List.findIdx_getElem (w := h)
   simpa [List.getD, h] using this
  ·have := List.not_of_lt_findIdx hj
   have hjl : j < l.length := by omega
   simpa [List.getD, hjl] using this
 ·rw [if_neg h]
  refine ⟨by omega, ?_⟩
  rw [if_neg (by omega), List.find?_eq_none]
  intro x hx hpx
  exact h (List.findIdx_lt_length_of_exists ⟨x, hx, hpx⟩)
end Go.Nov
end

/- Events of a log, plain. -/
section
namespace Go.Nov
open Go.Sx
structure Ev where
 kind : Int
 id : Int
 entry : Int
 target : Int
 date : Int
 zb : List UInt8
 name : List UInt8
 value : List UInt8
 first : Bool
deriving DecidableEq
abbrev Ev.nil : Ev := ⟨0, 0, 0, 0, 0, [], [], [], false⟩
def Ev.cell (e : Ev) : Nat → AV
 | 0 => .int .u8 e.kind
 | 1 => .int .i64 e.id
 | 2 => .int .i64 e.entry
 | 3 => .int .i64 e.target
 | 4 => .int .i64 e.date
 | 5 => .str e.zb
 | 6 => .str e.name
 | 7 => .str e.value
 | 8 => .bool e.first
 | _ => .undef
def evG (l : List Ev) : Nat → Nat → AV := fun j => (l.getD j Ev.nil).cell
def Ev.av (e : Ev) : AV := .agg [.int .u8 e.kind, .int .i64 e.id, .int .i64 e.entry, .int .i64 e.target, .int .i64 e.date, .str e.zb, .str e.name, .str e.value, .bool e.first]
def evS (l : List Ev) : AV := .sl l.length 9 (evG l)
theorem KM (l : List Ev) (j o : Nat) (ho : o < 9) : zD (evG l j o) = true := by
 unfold evG
 rcases (show o = 0 ∨ o = 1 ∨ o = 2 ∨ o = 3 ∨ o = 4 ∨ o = 5 ∨ o = 6 ∨ o = 7 ∨ o = 8 by omega) with rfl | rfl | rfl | rfl | rfl | rfl | rfl | rfl | rfl <;> rfl
theorem jZ {l : List Ev} {x : Ev} {g : Nat → Nat → AV} (hg : eqG l.length 9 g (evG l)) : eqG (l.length + 1) 9 (appG l.length g (zg (zf 9 [.int .u8 x.kind, .int .i64 x.id, .int .i64 x.entry, .int .i64 x.target, .int .i64 x.date, .str x.zb, .str x.name, .str x.value, .bool x.first]) 0)) (evG (l ++ [x])) := by
 intro j p hj hp
 simp only [appG, zg, zf]
 by_cases q : j < l.length
 ·rw [if_pos q, hg j p q hp]
  simp only [evG, List.getD, List.getElem?_append_left q]
 ·rw [if_neg q]
  obtain rfl : j = l.length := by omega
  have e : (l ++ [x]).getD l.length Ev.nil = x := by simp [List.getD]
  unfold evG
  rw [e]
  rcases (show p = 0 ∨ p = 1 ∨ p = 2 ∨ p = 3 ∨ p = 4 ∨ p = 5 ∨ p = 6 ∨ p = 7 ∨ p = 8 by omega) with rfl | rfl | rfl | rfl | rfl | rfl | rfl | rfl | rfl <;> simp [Ev.cell]
def inB (n a b : Int) : Bool := decide (a ≤ n) && decide (n ≤ b)
def z7 (e : Ev) : Prop := e.zb.length < 2 ^ 40 ∧ e.name.length < 2 ^ 40 ∧ e.value.length < 2 ^ 40
def Ev.valid (e : Ev) : Bool :=
 inB e.id 1 1073741824 && inB e.entry 0 1125899906842624 &&
 (if e.kind = 1 then zu e.name && dayB e.date && decide (errR e.value = 0) && decide (e.target = 0) && decide (e.zb = []) && !e.first
  else if e.kind = 2 then zu e.zb && zu e.name && dayB e.date && decide (e.target = 0) && decide (e.value = [])
  else inB e.target 1 (e.id - 1) && decide (e.date = 0) && decide (e.zb = []) && decide (e.name = []) &&
   (if e.kind = 3 then decide (errR e.value = 0) && !e.first
   else if e.kind = 4 then decide (e.value = [])
   else decide (e.kind = 5) && decide (e.value = []) && !e.first))
def Ev.key (e : Ev) : List Sc := [.inl e.kind, .inr e.zb, .inr e.name, .inl e.date]
def Ev.jt (k : List Sc) (x : Ev) : Bool := decide (x.kind ≠ 0) && decide (x.key = k)
def zt (l : List Ev) : List Sc → Bool := fun k => l.any (Ev.jt k)
def z8 (l : List Ev) : List Sc → AV := fun k => .int .i64 ((l.findIdx (Ev.jt k) : Nat) + 1 : Int)
structure SS where
 evs : List Ev
 lat : List Ev
def SS.fact (s : SS) (e : Ev) : Ev := s.lat.getD (e.target.toNat - 1) Ev.nil
def SS.errC (s : SS) (e : Ev) : Int :=
 if (s.lat.length : Int) < e.target ∨ (s.fact e).kind = 0 then 6
 else if e.kind = 5 then 0
 else if decide (e.kind = 3) ≠ decide ((s.fact e).kind = 1) then 32 else 0
def SS.fixed (s : SS) (e : Ev) : Ev := if e.kind = 5 then Ev.nil else { s.fact e with value := e.value, first := e.first }
def SS.cor (s : SS) (e : Ev) : SS := if s.errC e = 0 then ⟨s.evs, s.lat.set (e.target.toNat - 1) (s.fixed e)⟩ else s
def SS.errA (s : SS) (e : Ev) : Int :=
 if e.valid = false ∨ e.id ≠ s.evs.length + 1 then 2
 else if 0 < s.evs.length ∧ e.entry < (s.evs.getD (s.evs.length - 1) Ev.nil).entry then 21
 else if 1000 ≤ s.evs.length then 22
 else if 0 < e.target then s.errC e
 else if zt s.lat e.key then 24 else 0
def SS.add (s : SS) (e : Ev) : SS :=
 if s.errA e ≠ 0 then s
 else if 0 < e.target then ⟨s.evs ++ [e], (s.cor e).lat ++ [Ev.nil]⟩
 else ⟨s.evs ++ [e], s.lat ++ [e]⟩
structure SS.ok (s : SS) : Prop where
 len : s.lat.length = s.evs.length
 uniq : ∀ i j, i < s.lat.length → j < s.lat.length → (s.lat.getD i Ev.nil).kind ≠ 0 → (s.lat.getD j Ev.nil).kind ≠ 0 → (s.lat.getD i Ev.nil).key = (s.lat.getD j Ev.nil).key → i = j
 kinds : ∀ i, i < s.lat.length → (s.lat.getD i Ev.nil).kind = 0 ∨ (s.lat.getD i Ev.nil).kind = 1 ∨ (s.lat.getD i Ev.nil).kind = 2
end Go.Nov
end

/- Events: Check, and the reference's Valid. -/
section
set_option maxRecDepth 100000
open Go Go.Sx Go.Proofs Go.Nov
namespace Go.Proofs.Tryz
attribute [local simp] eqKV eqA eqA0 eqH eqB eqL eqL0
noncomputable def V0 : Ctr := inlC Tryz.prog noG 100 Tryz.f79
theorem WL : ze Tryz.prog 79 V0 := xB hmix zr rfl rfl
noncomputable def GEv0 : Nat → Option Ctr := fun f => if f = 79 then some (V0) else none
theorem zcc : ∀ g c, GEv0 g = some c → ze Tryz.prog g c := okIf WL (zn)
noncomputable def ze1 : Ctr := inlC Tryz.prog GEv0 100 Tryz.f80
theorem zca : ze Tryz.prog 80 ze1 := xB hmix zcc rfl rfl
def Zc : Ctr := ctrP true (fun e : Ev => [e.av]) z7 (fun e r => r = if e.valid then 0 else 8) (fun _ (r : Int) => (.int .i64 r, []))
noncomputable def GEv : Nat → Option Ctr := fun f => if f = 79 then some (V0) else if f = 80 then some (ze1) else if f = 37 then some (Zd) else if f = 35 then some (xy) else none
theorem zfc : ∀ g c, GEv g = some c → ze Tryz.prog g c := okIf WL (okIf zca (okIf ur (okIf JO (zn))))
theorem YB : ze Tryz.prog 52 Zc := by
 refine zh (fn := Tryz.f52) (c := Tryz.f52.body.getD .skip) rfl rfl rfl fun p hp O w0 Q hq => ?_
 obtain ⟨k, i, n, t, d, pa, na, va, b⟩ := p
 obtain ⟨h1, h2, h3⟩ := hp
 replace hq := hq _ rfl
 simp only at hq h1 h2 h3
 refine zc.run hmix zfc [] 400 (T := .ite (bif !bif decide ((1 : Int) ≤ i) then decide (i ≤ 1073741824) else false then true else !bif decide ((0 : Int) ≤ n) then decide (n ≤ 1125899906842624) else false) (.leaf (.ret [.int .i64 8] [.box [.int .u8 k, .int .i64 i, .int .i64 n, .int .i64 t, .int .i64 d, .str pa, .str na, .str va, .bool b]])) (.side (inR .i64 (i - (1 : Int))) (.ex (fun (x : List UInt8) => eqL [AV.str va] [AV.str x] ∧ x.length < 4611686018427387904) fun n_1 => .all (fun (r : Int) => r = errR n_1) fun n_2 => .ite (decide (k = 1)) (.ex (fun (x : List UInt8) => eqL [AV.str na] [AV.str x] ∧ x.length < 4611686018427387904) fun n_3 => .all (fun (r : Bool) => r = zu n_3) fun n_4 => .ite (bif !bif bif n_4 then bif decide ((0 : Int) ≤ d) then decide (d ≤ 99999) else false else false then decide (n_2 = 0) else false then true else !(decide (k = k) && (decide (i = i) && (decide (n = n) && (decide (t = 0) && (decide (d = d) && (decide (pa = Array.toList #[]) && (decide (na = na) && (decide (va = va) && (b == false && true)))))))))) (.leaf (.ret [.int .i64 8] [.box [.int .u8 k, .int .i64 i, .int .i64 n, .int .i64 t, .int .i64 d, .str pa, .str na, .str va, .bool b], .box [.int .u8 k, .int .i64 i, .int .i64 n, .int .i64 0, .int .i64 d, .str (Array.toList #[]), .str na, .str va, .bool false]])) (.leaf (.ret [.int .i64 0] [.box [.int .u8 k, .int .i64 i, .int .i64 n, .int .i64 t, .int .i64 d, .str pa, .str na, .str va, .bool b], .box [.int .u8 k, .int .i64 i, .int .i64 n, .int .i64 0, .int .i64 d, .str (Array.toList #[]), .str na, .str va, .bool false]]))) (.ite (decide (k = 2)) (.ex (fun (x : List UInt8) => eqL [AV.str pa] [AV.str x] ∧ x.length < 4611686018427387904) fun n_3 => .all (fun (r : Bool) => r = zu n_3) fun n_4 => .ex (fun (x : List UInt8) => n_4 = true → eqL [AV.str na] [AV.str x] ∧ x.length < 4611686018427387904) fun n_5 => .all (fun (x : Bool) => n_4 = true → x = zu n_5) fun n_6 => .ite (bif !bif bif n_4 then n_6 else false then bif decide ((0 : Int) ≤ d) then decide (d ≤ 99999) else false else false then true else !(decide (k = k) && (decide (i = i) && (decide (n = n) && (decide (t = 0) && (decide (d = d) && (decide (pa = pa) && (decide (na = na) && (decide (va = Array.toList #[]) && (b == b && true)))))))))) (.leaf (.ret [.int .i64 8] [.box [.int .u8 k, .int .i64 i, .int .i64 n, .int .i64 t, .int .i64 d, .str pa, .str na, .str va, .bool b], .box [.int .u8 k, .int .i64 i, .int .i64 n, .int .i64 0, .int .i64 d, .str pa, .str na, .str (Array.toList #[]), .bool b]])) (.leaf (.ret [.int .i64 0] [.box [.int .u8 k, .int .i64 i, .int .i64 n, .int .i64 t, .int .i64 d, .str pa, .str na, .str va, .bool b], .box [.int .u8 k, .int .i64 i, .int .i64 n, .int .i64 0, .int .i64 d, .str pa, .str na, .str (Array.toList #[]), .bool b]]))) (.ite (decide (k = 3)) (.ite (bif !bif bif decide ((1 : Int) ≤ t) then decide (t ≤ i - (1 : Int)) else false then decide (n_2 = 0) else false then true else !(decide (k = k) && (decide (i = i) && (decide (n = n) && (decide (t = t) && (decide (d = 0) && (decide (pa = Array.toList #[]) && (decide (na = Array.toList #[]) && (decide (va = va) && (b == false && true)))))))))) (.leaf (.ret [.int .i64 8] [.box [.int .u8 k, .int .i64 i, .int .i64 n, .int .i64 t, .int .i64 d, .str pa, .str na, .str va, .bool b], .box [.int .u8 k, .int .i64 i, .int .i64 n, .int .i64 t, .int .i64 0, .str (Array.toList #[]), .str (Array.toList #[]), .str va, .bool false]])) (.leaf (.ret [.int .i64 0] [.box [.int .u8 k, .int .i64 i, .int .i64 n, .int .i64 t, .int .i64 d, .str pa, .str na, .str va, .bool b], .box [.int .u8 k, .int .i64 i, .int .i64 n, .int .i64 t, .int .i64 0, .str (Array.toList #[]), .str (Array.toList #[]), .str va, .bool false]]))) (.ite (decide (k = 4)) (.ite (bif !bif decide ((1 : Int) ≤ t) then decide (t ≤ i - (1 : Int)) else false then true else !(decide (k = k) && (decide (i = i) && (decide (n = n) && (decide (t = t) && (decide (d = 0) && (decide (pa = Array.toList #[]) && (decide (na = Array.toList #[]) && (decide (va = Array.toList #[]) && (b == b && true)))))))))) (.leaf (.ret [.int .i64 8] [.box [.int .u8 k, .int .i64 i, .int .i64 n, .int .i64 t, .int .i64 d, .str pa, .str na, .str va, .bool b], .box [.int .u8 k, .int .i64 i, .int .i64 n, .int .i64 t, .int .i64 0, .str (Array.toList #[]), .str (Array.toList #[]), .str (Array.toList #[]), .bool b]])) (.leaf (.ret [.int .i64 0] [.box [.int .u8 k, .int .i64 i, .int .i64 n, .int .i64 t, .int .i64 d, .str pa, .str na, .str va, .bool b], .box [.int .u8 k, .int .i64 i, .int .i64 n, .int .i64 t, .int .i64 0, .str (Array.toList #[]), .str (Array.toList #[]), .str (Array.toList #[]), .bool b]]))) (.ite (decide (k = 5)) (.ite (bif !bif decide ((1 : Int) ≤ t) then decide (t ≤ i - (1 : Int)) else false then true else !(decide (k = k) && (decide (i = i) && (decide (n = n) && (decide (t = t) && (decide (d = 0) && (decide (pa = Array.toList #[]) && (decide (na = Array.toList #[]) && (decide (va = Array.toList #[]) && (b == false && true)))))))))) (.leaf (.ret [.int .i64 8] [.box [.int .u8 k, .int .i64 i, .int .i64 n, .int .i64 t, .int .i64 d, .str pa, .str na, .str va, .bool b], .box [.int .u8 k, .int .i64 i, .int .i64 n, .int .i64 t, .int .i64 0, .str (Array.toList #[]), .str (Array.toList #[]), .str (Array.toList #[]), .bool false]])) (.leaf (.ret [.int .i64 0] [.box [.int .u8 k, .int .i64 i, .int .i64 n, .int .i64 t, .int .i64 d, .str pa, .str na, .str va, .bool b], .box [.int .u8 k, .int .i64 i, .int .i64 n, .int .i64 t, .int .i64 0, .str (Array.toList #[]), .str (Array.toList #[]), .str (Array.toList #[]), .bool false]]))) (.ite (bif !false then true else !(decide (k = k) && (decide (i = i) && (decide (n = n) && (decide (t = 0) && (decide (d = 0) && (decide (pa = Array.toList #[]) && (decide (na = Array.toList #[]) && (decide (va = Array.toList #[]) && (b == false && true)))))))))) (.leaf (.ret [.int .i64 8] [.box [.int .u8 k, .int .i64 i, .int .i64 n, .int .i64 t, .int .i64 d, .str pa, .str na, .str va, .bool b], .box [.int .u8 k, .int .i64 i, .int .i64 n, .int .i64 0, .int .i64 0, .str (Array.toList #[]), .str (Array.toList #[]), .str (Array.toList #[]), .bool false]])) (.leaf (.ret [.int .i64 0] [.box [.int .u8 k, .int .i64 i, .int .i64 n, .int .i64 t, .int .i64 d, .str pa, .str na, .str va, .bool b], .box [.int .u8 k, .int .i64 i, .int .i64 n, .int .i64 0, .int .i64 0, .str (Array.toList #[]), .str (Array.toList #[]), .str (Array.toList #[]), .bool false]])))))))))) (by kernel_rfl) ?_
 simp only [Tree.holds, zd]
 have two : ∀ (c : Bool) (h h' : Heap), (c = !(Ev.valid ⟨k, i, n, t, d, pa, na, va, b⟩)) → (c = true → RetR Zc 0 Q [.int .i64 8] h) ∧ (c = false → RetR Zc 0 Q [.int .i64 0] h') := by
  intro c h h' hc
  rw [hc]
  refine ⟨fun g => RetR.scal hq rfl ?_, fun g => RetR.scal hq rfl ?_⟩
  ·rw [if_neg (by simpa using g)]; rfl
  ·rw [if_pos (by simpa using g)]; rfl
 refine ⟨fun g => (two true _ [] (by
  have g' : (inB i 1 1073741824 && inB n 0 1125899906842624) = false := by
   simp only [inB]
   revert g
   cases decide (1 ≤ i) <;> cases decide (i ≤ 1073741824) <;> cases decide (0 ≤ n) <;> cases decide (n ≤ 1125899906842624) <;> simp
  simp only [Ev.valid, g', Bool.false_and]; rfl)).1 rfl, fun g => ?_⟩
 have g' : (inB i 1 1073741824 && inB n 0 1125899906842624) = true := by
  simp only [inB]
  revert g
  cases decide (1 ≤ i) <;> cases decide (i ≤ 1073741824) <;> cases decide (0 ≤ n) <;> cases decide (n ≤ 1125899906842624) <;> simp
 have hv : Ev.valid ⟨k, i, n, t, d, pa, na, va, b⟩ = (if k = 1 then zu na && dayB d && decide (errR va = 0) && decide (t = 0) && decide (pa = []) && !b
  else if k = 2 then zu pa && zu na && dayB d && decide (t = 0) && decide (va = [])
  else inB t 1 (i - 1) && decide (d = 0) && decide (pa = []) && decide (na = []) &&
   (if k = 3 then decide (errR va = 0) && !b
   else if k = 4 then decide (va = [])
   else if k = 5 then decide (va = []) && !b else false)) := by
  simp only [Ev.valid, g', Bool.true_and]
  by_cases k5 : k = 5 <;> simp [k5]
 have hi1 : inR .i64 (i - 1) := by
  simp only [inB, Bool.and_eq_true, decide_eq_true_eq] at g'
  simp only [inR, lo, hi]
  omega
 rw [hv] at two
 clear hv g hq
 refine ⟨hi1, fun _ => ⟨va, ⟨by simp, by omega⟩, ⟨_, rfl⟩, ?_⟩⟩
 rintro _ rfl
 simp only [dayB, inB] at two
 have B : ∀ b : Bool, (b == false) = !b := by decide
 simp only [B, beq_self_eq_true, decide_true, Bool.true_and, Bool.and_true]
 have bi : ∀ x y : Bool, (bif x then y else false) = (x && y) := by decide
 have bo : ∀ x y : Bool, (bif x then true else y) = (x || y) := by decide
 simp only [bi, bo]
 generalize decide (errR va = 0) = e1 at two ⊢
 generalize decide (t = 0) = e2 at two ⊢
 generalize decide (pa = []) = e3 at two ⊢
 generalize decide (va = []) = e4 at two ⊢
 generalize decide (0 ≤ d) = e5 at two ⊢
 generalize decide (d ≤ 99999) = e6 at two ⊢
 generalize decide (na = []) = e7 at two ⊢
 generalize decide (d = 0) = e8 at two ⊢
 generalize decide (1 ≤ t) = e9 at two ⊢
 generalize decide (t ≤ i - 1) = e10 at two ⊢
 refine ⟨fun k1 => ?_, fun k1 => ⟨fun k2 => ?_, fun k2 => ⟨fun k3 => ?_, fun k3 => ⟨fun k4 => ?_, fun k4 => ⟨fun k5 => ?_, fun k5 => ?_⟩⟩⟩⟩⟩ <;> simp only [decide_eq_true_eq, decide_eq_false_iff_not] at *
 ·rw [if_pos k1] at two
  refine ⟨na, ⟨by simp, by omega⟩, ⟨_, rfl⟩, ?_⟩
  rintro _ rfl
  refine two _ _ _ ?_
  generalize zu na = e11
  clear two hi1
  cases e1 <;> cases e2 <;> cases e3 <;> cases e5 <;> cases e6 <;> cases e11 <;> cases b <;> rfl
 ·rw [if_neg k1, if_pos k2] at two
  refine ⟨pa, ⟨by simp, by omega⟩, ⟨_, rfl⟩, ?_⟩
  rintro _ rfl
  refine ⟨na, fun _ => ⟨by simp, by omega⟩, ⟨_, fun _ => rfl⟩, ?_⟩
  intro b6 h6
  refine two _ _ _ ?_
  generalize zu na = e11 at h6 ⊢
  generalize zu pa = e12 at h6 ⊢
  clear two hi1
  cases e12
  ·rfl
  ·rw [h6 rfl]
   cases e2 <;> cases e4 <;> cases e5 <;> cases e6 <;> cases e11 <;> rfl
 ·rw [if_neg k1, if_neg k2, if_pos k3] at two
  refine two _ _ _ ?_
  clear two hi1
  cases e1 <;> cases e3 <;> cases e7 <;> cases e8 <;> cases e9 <;> cases e10 <;> cases b <;> rfl
 ·rw [if_neg k1, if_neg k2, if_neg k3, if_pos k4] at two
  refine two _ _ _ ?_
  clear two hi1
  cases e4 <;> cases e3 <;> cases e7 <;> cases e8 <;> cases e9 <;> cases e10 <;> rfl
 ·rw [if_neg k1, if_neg k2, if_neg k3, if_neg k4, if_pos k5] at two
  refine two _ _ _ ?_
  clear two hi1
  cases e4 <;> cases e3 <;> cases e7 <;> cases e8 <;> cases e9 <;> cases e10 <;> cases b <;> rfl
 ·rw [if_neg k1, if_neg k2, if_neg k3, if_neg k4, if_neg k5] at two
  refine two _ _ _ ?_
  clear two hi1
  cases e4 <;> cases e3 <;> cases e7 <;> cases e8 <;> cases e9 <;> cases e10 <;> cases b <;> rfl
noncomputable def JE : Ctr := inlC Tryz.prog noG 100 Tryz.f18
theorem Zn : ze Tryz.prog 18 JE := xB hmix zr rfl rfl
noncomputable def zev : Ctr := inlC Tryz.prog noG 100 Tryz.f95
theorem zda : ze Tryz.prog 95 zev := xB hmix zr rfl rfl
noncomputable def GEr0 : Nat → Option Ctr := fun f => if f = 95 then some (zev) else if f = 49 then some (yJ) else none
theorem XF : ∀ g c, GEr0 g = some c → ze Tryz.prog g c := okIf zda (okIf xU (zn))
noncomputable def zb8 : Ctr := inlC Tryz.prog GEr0 100 Tryz.f73
theorem Ui : ze Tryz.prog 73 zb8 := xB hmix XF rfl rfl
noncomputable def XM : Ctr := inlC Tryz.prog GEr0 100 Tryz.f74
theorem YC : ze Tryz.prog 74 XM := xB hmix XF rfl rfl
def VO : Ctr := ctrP true (fun e : Ev => [e.av]) z7 (fun e r => r = e.valid) (fun _ (r : Bool) => (.bool r, []))
noncomputable def GEr : Nat → Option Ctr := fun f => if f = 18 then some (JE) else if f = 73 then some (zb8) else if f = 74 then some (XM) else if f = 47 then some (xy) else none
theorem zfi : ∀ g c, GEr g = some c → ze Tryz.prog g c := okIf Zn (okIf Ui (okIf YC (okIf Zl (zn))))
theorem UU : ze Tryz.prog 44 VO := by
 refine zh (fn := Tryz.f44) (c := Tryz.f44.body.getD .skip) rfl rfl rfl fun p hp O w0 Q hq => ?_
 obtain ⟨k, i, n, t, d, pa, na, va, b⟩ := p
 obtain ⟨h1, h2, h3⟩ := hp
 replace hq := hq _ rfl
 simp only at hq h1 h2 h3
 refine zc.run hmix zfi [] 400 (T := .ite (bif !bif decide ((1 : Int) ≤ i) then decide (i ≤ 1073741824) else false then true else !bif decide ((0 : Int) ≤ n) then decide (n ≤ 1125899906842624) else false) (.leaf (.ret [.bool false] [.box [.int .u8 k, .int .i64 i, .int .i64 n, .int .i64 t, .int .i64 d, .str pa, .str na, .str va, .bool b]])) (.side (inR .i64 (i - (1 : Int))) (.ite (decide (k = 1)) (.ex (fun (x : List UInt8) => eqL [AV.str na] [AV.str x] ∧ x.length < 4611686018427387904) fun n_1 => .all (fun (r : Bool) => r = zu n_1) fun n_2 => .ex (fun (x : List UInt8) => (bif n_2 then bif decide ((0 : Int) ≤ d) then decide (d ≤ 99999) else false else false) = true → eqL [AV.str va] [AV.str x] ∧ x.length < 1099511627776) fun n_3 => .all (fun (x : Int) => (bif n_2 then bif decide ((0 : Int) ≤ d) then decide (d ≤ 99999) else false else false) = true → x = errR n_3) fun n_4 => .leaf (.ret [.bool (bif bif bif bif bif n_2 then bif decide ((0 : Int) ≤ d) then decide (d ≤ 99999) else false else false then decide (n_4 = 0) else false then decide (t = 0) else false then decide (pa = Array.toList #[]) else false then !b else false)] [.box [.int .u8 k, .int .i64 i, .int .i64 n, .int .i64 t, .int .i64 d, .str pa, .str na, .str va, .bool b]])) (.ite (decide (k = 2)) (.ex (fun (x : List UInt8) => eqL [AV.str pa] [AV.str x] ∧ x.length < 4611686018427387904) fun n_1 => .all (fun (r : Bool) => r = zu n_1) fun n_2 => .ex (fun (x : List UInt8) => n_2 = true → eqL [AV.str na] [AV.str x] ∧ x.length < 4611686018427387904) fun n_3 => .all (fun (x : Bool) => n_2 = true → x = zu n_3) fun n_4 => .leaf (.ret [.bool (bif bif bif bif n_2 then n_4 else false then bif decide ((0 : Int) ≤ d) then decide (d ≤ 99999) else false else false then decide (t = 0) else false then decide (va = Array.toList #[]) else false)] [.box [.int .u8 k, .int .i64 i, .int .i64 n, .int .i64 t, .int .i64 d, .str pa, .str na, .str va, .bool b]])) (.ite (decide (k = 3)) (.ex (fun (x : List UInt8) => (bif decide ((1 : Int) ≤ t) then decide (t ≤ i - (1 : Int)) else false) = true → eqL [AV.str va] [AV.str x] ∧ x.length < 1099511627776) fun n_1 => .all (fun (x : Int) => (bif decide ((1 : Int) ≤ t) then decide (t ≤ i - (1 : Int)) else false) = true → x = errR n_1) fun n_2 => .leaf (.ret [.bool (bif bif bif bif bif bif decide ((1 : Int) ≤ t) then decide (t ≤ i - (1 : Int)) else false then decide (n_2 = 0) else false then decide (d = 0) else false then decide (pa = Array.toList #[]) else false then decide (na = Array.toList #[]) else false then !b else false)] [.box [.int .u8 k, .int .i64 i, .int .i64 n, .int .i64 t, .int .i64 d, .str pa, .str na, .str va, .bool b]])) (.ite (decide (k = 4)) (.leaf (.ret [.bool (bif bif bif bif bif decide ((1 : Int) ≤ t) then decide (t ≤ i - (1 : Int)) else false then decide (d = 0) else false then decide (pa = Array.toList #[]) else false then decide (na = Array.toList #[]) else false then decide (va = Array.toList #[]) else false)] [.box [.int .u8 k, .int .i64 i, .int .i64 n, .int .i64 t, .int .i64 d, .str pa, .str na, .str va, .bool b]])) (.ite (decide (k = 5)) (.leaf (.ret [.bool (bif bif bif bif bif bif decide ((1 : Int) ≤ t) then decide (t ≤ i - (1 : Int)) else false then decide (d = 0) else false then decide (pa = Array.toList #[]) else false then decide (na = Array.toList #[]) else false then decide (va = Array.toList #[]) else false then !b else false)] [.box [.int .u8 k, .int .i64 i, .int .i64 n, .int .i64 t, .int .i64 d, .str pa, .str na, .str va, .bool b]])) (.leaf (.ret [.bool false] [.box [.int .u8 k, .int .i64 i, .int .i64 n, .int .i64 t, .int .i64 d, .str pa, .str na, .str va, .bool b]]))))))))) (by kernel_rfl) ?_
 simp only [Tree.holds, zd]
 have two : ∀ (c : Bool) (h : Heap), (c = Ev.valid ⟨k, i, n, t, d, pa, na, va, b⟩) → RetR VO 0 Q [.bool c] h := by
  intro c h hc
  rw [hc]
  exact RetR.scal hq rfl rfl
 refine ⟨fun g => two _ _ ?_, fun g => ?_⟩
 ·have g' : (inB i 1 1073741824 && inB n 0 1125899906842624) = false := by
   simp only [inB]
   revert g
   cases decide (1 ≤ i) <;> cases decide (i ≤ 1073741824) <;> cases decide (0 ≤ n) <;> cases decide (n ≤ 1125899906842624) <;> simp
  simp only [Ev.valid, g', Bool.false_and]
 have g' : (inB i 1 1073741824 && inB n 0 1125899906842624) = true := by
  simp only [inB]
  revert g
  cases decide (1 ≤ i) <;> cases decide (i ≤ 1073741824) <;> cases decide (0 ≤ n) <;> cases decide (n ≤ 1125899906842624) <;> simp
 have hv : Ev.valid ⟨k, i, n, t, d, pa, na, va, b⟩ = (if k = 1 then zu na && dayB d && decide (errR va = 0) && decide (t = 0) && decide (pa = []) && !b
  else if k = 2 then zu pa && zu na && dayB d && decide (t = 0) && decide (va = [])
  else inB t 1 (i - 1) && decide (d = 0) && decide (pa = []) && decide (na = []) &&
   (if k = 3 then decide (errR va = 0) && !b
   else if k = 4 then decide (va = [])
   else if k = 5 then decide (va = []) && !b else false)) := by
  simp only [Ev.valid, g', Bool.true_and]
  by_cases k5 : k = 5 <;> simp [k5]
 have hi1 : inR .i64 (i - 1) := by
  simp only [inB, Bool.and_eq_true, decide_eq_true_eq] at g'
  simp only [inR, lo, hi]
  omega
 rw [hv] at two
 clear hv g hq
 refine ⟨hi1, fun _ => ?_⟩
 simp only [dayB, inB] at two
 have bi : ∀ x y : Bool, (bif x then y else false) = (x && y) := by decide
 simp only [bi]
 generalize decide (t = 0) = e2 at two ⊢
 generalize decide (pa = []) = e3 at two ⊢
 generalize decide (va = []) = e4 at two ⊢
 generalize decide (0 ≤ d) = e5 at two ⊢
 generalize decide (d ≤ 99999) = e6 at two ⊢
 generalize decide (na = []) = e7 at two ⊢
 generalize decide (d = 0) = e8 at two ⊢
 generalize decide (1 ≤ t) = e9 at two ⊢
 generalize decide (t ≤ i - 1) = e10 at two ⊢
 have hz : ∃ z, z = errR va := ⟨_, rfl⟩
 refine ⟨fun k1 => ?_, fun k1 => ⟨fun k2 => ?_, fun k2 => ⟨fun k3 => ?_, fun k3 => ⟨fun k4 => ?_, fun k4 => ⟨fun k5 => ?_, fun k5 => ?_⟩⟩⟩⟩⟩ <;> simp only [decide_eq_true_eq, decide_eq_false_iff_not] at k1
 ·rw [if_pos k1] at two
  refine ⟨na, ⟨by simp, by omega⟩, ⟨_, rfl⟩, ?_⟩
  rintro _ rfl
  refine ⟨va, fun _ => ⟨by simp, by omega⟩, ⟨_, fun _ => rfl⟩, ?_⟩
  intro z hz
  refine two _ _ ?_
  generalize zu na = e11 at hz ⊢
  clear two hi1
  cases hc : (e11 && (e5 && e6))
  ·rfl
  ·rw [hz hc]
 ·simp only [decide_eq_true_eq] at k2
  rw [if_neg k1, if_pos k2] at two
  refine ⟨pa, ⟨by simp, by omega⟩, ⟨_, rfl⟩, ?_⟩
  rintro _ rfl
  refine ⟨na, fun _ => ⟨by simp, by omega⟩, ⟨_, fun _ => rfl⟩, ?_⟩
  intro b6 h6
  refine two _ _ ?_
  generalize zu na = e11 at h6 ⊢
  generalize zu pa = e12 at h6 ⊢
  clear two hi1
  cases e12
  ·rfl
  ·rw [h6 rfl]
 ·simp only [decide_eq_true_eq, decide_eq_false_iff_not] at k2 k3
  rw [if_neg k1, if_neg k2, if_pos k3] at two
  refine ⟨va, fun _ => ⟨by simp, by omega⟩, ⟨_, fun _ => rfl⟩, ?_⟩
  intro z hz
  refine two _ _ ?_
  clear two hi1
  cases hc : (e9 && e10)
  ·simp
  ·rw [hz hc]
   generalize decide (errR va = 0) = e1
   clear hc hz
   cases e1 <;> cases e3 <;> cases e7 <;> cases e8 <;> cases b <;> rfl
 ·simp only [decide_eq_true_eq, decide_eq_false_iff_not] at k2 k3 k4
  rw [if_neg k1, if_neg k2, if_neg k3, if_pos k4] at two
  exact two _ _ rfl
 ·simp only [decide_eq_true_eq, decide_eq_false_iff_not] at k2 k3 k4 k5
  rw [if_neg k1, if_neg k2, if_neg k3, if_neg k4, if_pos k5] at two
  refine two _ _ ?_
  clear two hi1
  cases e4 <;> cases e3 <;> cases e7 <;> cases e8 <;> cases e9 <;> cases e10 <;> cases b <;> rfl
 ·simp only [decide_eq_true_eq, decide_eq_false_iff_not] at k2 k3 k4 k5
  rw [if_neg k1, if_neg k2, if_neg k3, if_neg k4, if_neg k5] at two
  refine two _ _ ?_
  simp
end Go.Proofs.Tryz
end

/- Facts that stand: what corrections and new facts do to them. -/
section
namespace Go.Nov
open Go.Sx
theorem zK {α : Type} {l : List α} {z : α} {j : Nat} (h : j < l.length) : l.getD j z = l[j] := by simp [List.getD, h]
theorem zd7 {α : Type} {p : α → Bool} {l : List α} {z : α} {j : Nat} (hj : j < l.length) (hp : p (l.getD j z) = true) (hu : ∀ i, i < l.length → p (l.getD i z) = true → i = j) : l.findIdx p = j := by
 have hlt : l.findIdx p < l.length := List.findIdx_lt_length_of_exists ⟨l[j], List.getElem_mem hj, by rwa [zK hj] at hp⟩
 exact hu _ hlt (by rw [zK hlt]; exact List.findIdx_getElem (w := hlt))
theorem uA {l : List Ev} {k : List Sc} : zt l k = true ↔ ∃ j, j < l.length ∧ (l.getD j Ev.nil).kind ≠ 0 ∧ (l.getD j Ev.nil).key = k := by
 unfold zt
 rw [List.any_eq_true]
 constructor
 ·rintro ⟨x, hx, hl⟩
  obtain ⟨j, hj, rfl⟩ := List.mem_iff_getElem.1 hx
  refine ⟨j, hj, ?_⟩
  rw [zK hj]
  simpa [Ev.jt] using hl
 ·rintro ⟨j, hj, hl⟩
  rw [zK hj] at hl
  exact ⟨_, List.getElem_mem hj, by simpa [Ev.jt] using hl⟩
theorem jd {α : Type} {l : List α} {z y : α} {i j : Nat} (hi : i < l.length) : (l.set i y).getD j z = if j = i then y else l.getD j z := by
 by_cases h : j = i
 ·subst h; rw [if_pos rfl]; simp [List.getD, hi]
 ·rw [if_neg h]
  simp only [List.getD]
  rw [List.getElem?_set_ne (fun g => h g.symm)]
theorem za6 {s : SS} (ho : s.ok) {k : List Sc} {j : Nat} (hj : j < s.lat.length) (h1 : (s.lat.getD j Ev.nil).kind ≠ 0) (h2 : (s.lat.getD j Ev.nil).key = k) : s.lat.findIdx (Ev.jt k) = j :=
 zd7 (z := Ev.nil) hj (by simp only [Ev.jt, h2, decide_true, Bool.and_true]; exact decide_eq_true h1) fun i hi hl => by
  have hl : (s.lat.getD i Ev.nil).kind ≠ 0 ∧ (s.lat.getD i Ev.nil).key = k := by simpa [Ev.jt] using hl
  exact ho.uniq i j hi hj hl.1 h1 (by rw [hl.2, h2])
theorem Us {s : SS} (ho : s.ok) {i : Nat} (hi : i < s.lat.length) : SS.ok ⟨s.evs, s.lat.set i Ev.nil⟩ where
 len := by simpa using ho.len
 uniq a b ha hb := by
  simp only [List.length_set] at ha hb
  simp only [jd hi]
  by_cases h1 : a = i
  ·rw [if_pos h1]; intro h; exact absurd rfl h
  ·by_cases h2 : b = i
   ·rw [if_pos h2]; intro _ h; exact absurd rfl h
   ·rw [if_neg h1, if_neg h2]; exact ho.uniq a b ha hb
 kinds a ha := by
  simp only [List.length_set] at ha
  simp only [jd hi]
  by_cases h1 : a = i
  ·rw [if_pos h1]; exact .inl rfl
  ·rw [if_neg h1]; exact ho.kinds a ha
theorem zba {s : SS} (ho : s.ok) {i : Nat} (hi : i < s.lat.length) (hk : (s.lat.getD i Ev.nil).kind ≠ 0) (k : List Sc) : uq (zt s.lat) (s.lat.getD i Ev.nil).key k = zt (s.lat.set i Ev.nil) k := by
 rw [Bool.eq_iff_iff]
 simp only [uq, Bool.and_eq_true, Bool.not_eq_true', decide_eq_false_iff_not]
 rw [uA, uA]
 simp only [List.length_set, jd hi]
 constructor
 ·rintro ⟨h1, j, hj, h2, h3⟩
  have : j ≠ i := fun e => h1 (by rw [← h3, e])
  exact ⟨j, hj, by rw [if_neg this]; exact ⟨h2, h3⟩⟩
 ·rintro ⟨j, hj, h2⟩
  by_cases e : j = i
  ·rw [if_pos e] at h2; exact absurd rfl h2.1
  ·rw [if_neg e] at h2
   exact ⟨fun g => e (ho.uniq j i hj hi h2.1 hk (by rw [h2.2, g])), j, hj, h2⟩
theorem Y4 {s : SS} (ho : s.ok) {i : Nat} (hi : i < s.lat.length) {k : List Sc} (h : zt (s.lat.set i Ev.nil) k = true) : z8 s.lat k = z8 (s.lat.set i Ev.nil) k := by
 obtain ⟨j, hj, h1, h2⟩ := uA.1 h
 have e2 := za6 (Us ho hi) hj h1 h2
 rw [List.length_set] at hj
 rw [jd hi] at h1 h2
 by_cases e : j = i
 ·rw [if_pos e] at h1; exact absurd rfl h1
 ·rw [if_neg e] at h1 h2
  unfold z8
  rw [za6 ho hj h1 h2, e2]
theorem YS {l : List Ev} {i : Nat} {y : Ev} (hi : i < l.length) (h1 : y.kind = (l.getD i Ev.nil).kind) (h2 : y.key = (l.getD i Ev.nil).key) (k : List Sc) : ∀ j, j < l.length → Ev.jt k ((l.set i y).getD j Ev.nil) = Ev.jt k (l.getD j Ev.nil) := by
 intro j hj
 rw [jd hi]
 by_cases e : j = i
 ·rw [if_pos e, e]; simp only [Ev.jt, h1, h2]
 ·rw [if_neg e]
theorem zd1 {α : Type} {p q : α → Bool} {l m : List α} {z : α} (hl : l.length = m.length) (h : ∀ j, j < l.length → p (l.getD j z) = q (m.getD j z)) : l.any p = m.any q ∧ l.findIdx p = m.findIdx q := by
 induction l generalizing m with
 | nil => cases m with
  | nil => exact ⟨rfl, rfl⟩
  | cons _ _ => simp at hl
 | cons x l ih =>
  cases m with
  | nil => simp at hl
  | cons y m =>
   have h0 := h 0 (by simp)
   simp only [List.getD_cons_zero] at h0
   have hr := ih (m := m) (by simpa using hl) fun j hj => by
    have := h (j + 1) (by simpa using hj)
    simpa using this
   refine ⟨by simp only [List.any_cons, h0, hr.1], ?_⟩
   simp only [List.findIdx_cons, h0, hr.2]
theorem zf8 {l : List Ev} {i : Nat} {y : Ev} (hi : i < l.length) (h1 : y.kind = (l.getD i Ev.nil).kind) (h2 : y.key = (l.getD i Ev.nil).key) (k : List Sc) : zt l k = zt (l.set i y) k ∧ z8 l k = z8 (l.set i y) k := by
 have := zd1 (p := Ev.jt k) (q := Ev.jt k) (l := l) (m := l.set i y) (z := Ev.nil) (by simp) fun j hj => (YS hi h1 h2 k j hj).symm
 unfold zt z8
 rw [this.1, this.2]
 exact ⟨rfl, rfl⟩
theorem zf7 {s : SS} (ho : s.ok) {i : Nat} {y : Ev} (hi : i < s.lat.length) (h1 : y.kind = (s.lat.getD i Ev.nil).kind) (h2 : y.key = (s.lat.getD i Ev.nil).key) : SS.ok ⟨s.evs, s.lat.set i y⟩ := by
 have e1 : ∀ j, ((s.lat.set i y).getD j Ev.nil).kind = (s.lat.getD j Ev.nil).kind := fun j => by
  rw [jd hi]; by_cases e : j = i
  ·rw [if_pos e, e, h1]
  ·rw [if_neg e]
 have e2 : ∀ j, ((s.lat.set i y).getD j Ev.nil).key = (s.lat.getD j Ev.nil).key := fun j => by
  rw [jd hi]; by_cases e : j = i
  ·rw [if_pos e, e, h2]
  ·rw [if_neg e]
 refine ⟨by simpa using ho.len, fun a b ha hb => ?_, fun a ha => ?_⟩
 ·simp only [List.length_set] at ha hb
  simp only [e1, e2]
  exact ho.uniq a b ha hb
 ·simp only [List.length_set] at ha
  simp only [e1]
  exact ho.kinds a ha
theorem zbm {s : SS} {e : Ev} (hk : e.kind ≠ 0) (k : List Sc) : jl (zt s.lat) e.key k = zt (s.lat ++ [e]) k := by
 simp only [jl, zt, List.any_append, List.any_cons, List.any_nil, Bool.or_false, Ev.jt, hk, ne_eq, not_false_eq_true, decide_true, Bool.true_and]
 rw [Bool.or_comm]
 congr 1
 exact decide_eq_decide.2 ⟨fun h => h.symm, fun h => h.symm⟩
theorem Yw {s : SS} {e : Ev} (hk : e.kind ≠ 0) (hid : e.id = s.lat.length + 1) (hn : zt s.lat e.key = false) (k : List Sc) (h : zt (s.lat ++ [e]) k = true) : zH (z8 s.lat) e.key (.int .i64 e.id) k = z8 (s.lat ++ [e]) k := by
 unfold zH z8
 rw [List.findIdx_append]
 by_cases q : k = e.key
 ·rw [if_pos q]
  subst q
  have : ¬ s.lat.findIdx (Ev.jt e.key) < s.lat.length := by
   rw [List.findIdx_lt_length]
   rintro ⟨x, hx, hl⟩
   have : zt s.lat e.key = true := List.any_eq_true.2 ⟨x, hx, hl⟩
   rw [hn] at this; cases this
  rw [if_neg this]
  have e1 : Ev.jt e.key e = true := by simp [Ev.jt, hk]
  simp only [List.findIdx_cons, e1]
  rw [hid]; simp
 ·rw [if_neg q]
  have : s.lat.findIdx (Ev.jt k) < s.lat.length := by
   rw [List.findIdx_lt_length]
   simp only [zt, List.any_append, List.any_cons, List.any_nil, Bool.or_false, Bool.or_eq_true] at h
   rcases h with h | h
   ·exact List.any_eq_true.1 h
   ·have h : e.kind ≠ 0 ∧ e.key = k := by simpa [Ev.jt] using h
    exact absurd h.2.symm q
  rw [if_pos this]
theorem uf {l : List Ev} (k : List Sc) : zt l k = zt (l ++ [Ev.nil]) k ∧ (zt (l ++ [Ev.nil]) k = true → z8 l k = z8 (l ++ [Ev.nil]) k) := by
 have e : zt l k = zt (l ++ [Ev.nil]) k := by
  simp [zt, Ev.jt]
 refine ⟨e, fun h => ?_⟩
 rw [← e] at h
 unfold z8
 rw [List.findIdx_append, if_pos]
 rw [List.findIdx_lt_length]
 exact List.any_eq_true.1 h
theorem j2 {α : Type} {l : List α} {x z : α} {j : Nat} (h : j < l.length + 1) : (l ++ [x]).getD j z = if j < l.length then l.getD j z else x := by
 by_cases q : j < l.length
 ·rw [if_pos q]; simp only [List.getD, List.getElem?_append_left q]
 ·rw [if_neg q]
  obtain rfl : j = l.length := by omega
  simp [List.getD]
theorem UB {s : SS} (ho : s.ok) {e x : Ev} (hx : x.kind = 0 ∨ (x.kind = 1 ∨ x.kind = 2) ∧ zt s.lat x.key = false) : SS.ok ⟨s.evs ++ [e], s.lat ++ [x]⟩ := by
 refine ⟨by simp [ho.len], fun a b ha hb => ?_, fun a ha => ?_⟩
 ·simp only [List.length_append, List.length_cons, List.length_nil] at ha hb
  simp only
  rw [j2 (by omega), j2 (by omega)]
  by_cases h1 : a < s.lat.length <;> by_cases h2 : b < s.lat.length
  ·rw [if_pos h1, if_pos h2]; exact ho.uniq a b h1 h2
  ·rw [if_pos h1, if_neg h2]
   intro k1 k2 k3
   rcases hx with hx | ⟨_, hx⟩
   ·exact absurd hx k2
   ·have : zt s.lat x.key = true := uA.2 ⟨a, h1, k1, k3⟩
    rw [hx] at this; cases this
  ·rw [if_neg h1, if_pos h2]
   intro k1 k2 k3
   rcases hx with hx | ⟨_, hx⟩
   ·exact absurd hx k1
   ·have : zt s.lat x.key = true := uA.2 ⟨b, h2, k2, k3.symm⟩
    rw [hx] at this; cases this
  ·intros; omega
 ·simp only [List.length_append, List.length_cons, List.length_nil] at ha
  simp only
  rw [j2 (by omega)]
  by_cases h1 : a < s.lat.length
  ·rw [if_pos h1]; exact ho.kinds a h1
  ·rw [if_neg h1]
   rcases hx with hx | ⟨hx, _⟩
   ·exact .inl hx
   ·exact .inr hx
theorem Un {l : List Ev} {i : Nat} {y : Ev} (hi : i < l.length) {g : Nat → Nat → AV} (h1 : ∀ o, o < 9 → g i o = y.cell o) (h2 : ∀ j o, j ≠ i → g j o = evG l j o) : eqG l.length 9 g (evG (l.set i y)) := by
 intro j o hj ho
 unfold evG
 rw [jd hi]
 by_cases e : j = i
 ·rw [if_pos e, e]; exact h1 o ho
 ·rw [if_neg e]; exact h2 j o e
theorem Zh {s : SS} (ho : s.ok) {e : Ev} (ht : 0 < e.target) : (s.cor e).ok ∧ (s.cor e).lat.length = s.lat.length ∧ (s.cor e).evs = s.evs := by
 unfold SS.cor
 by_cases h : s.errC e = 0
 ·rw [if_pos h]
  unfold SS.errC at h
  by_cases h1 : (s.lat.length : Int) < e.target ∨ (s.fact e).kind = 0
  ·rw [if_pos h1] at h; cases h
  ·have hi : e.target.toNat - 1 < s.lat.length := by omega
   refine ⟨?_, by simp, rfl⟩
   unfold SS.fixed
   split
   ·exact Us ho hi
   ·exact zf7 ho hi rfl rfl
 ·rw [if_neg h]; exact ⟨ho, rfl, rfl⟩
theorem V7 {s : SS} (ho : s.ok) (e : Ev) : (s.add e).ok := by
 unfold SS.add
 by_cases h : s.errA e = 0
 ·rw [if_neg (by simpa using h)]
  unfold SS.errA at h
  by_cases h1 : e.valid = false ∨ e.id ≠ s.evs.length + 1
  ·rw [if_pos h1] at h; cases h
  ·rw [if_neg h1] at h
   by_cases h2 : 0 < s.evs.length ∧ e.entry < (s.evs.getD (s.evs.length - 1) Ev.nil).entry
   ·rw [if_pos h2] at h; cases h
   ·rw [if_neg h2] at h
    by_cases h3 : 1000 ≤ s.evs.length
    ·rw [if_pos h3] at h; cases h
    ·rw [if_neg h3] at h
     by_cases ht : 0 < e.target
     ·rw [if_pos ht]
      obtain ⟨c1, c2, c3⟩ := Zh ho ht
      have := UB c1 (e := e) (x := Ev.nil) (.inl rfl)
      rw [c3] at this
      exact this
     ·rw [if_neg ht] at h ⊢
      by_cases h4 : zt s.lat e.key = true
      ·rw [if_pos h4] at h; cases h
      ·refine UB ho (.inr ⟨?_, by simpa using h4⟩)
       have hv : e.valid = true := by
        cases hv : e.valid
        ·exact absurd (.inl hv) h1
        ·rfl
       unfold Ev.valid at hv
       by_cases k1 : e.kind = 1
       ·exact .inl k1
       ·by_cases k2 : e.kind = 2
        ·exact .inr k2
        ·rw [if_neg k1, if_neg k2] at hv
         simp only [Bool.and_eq_true, inB, decide_eq_true_eq] at hv
         omega
 ·rw [if_pos h]; exact ho
end Go.Nov
namespace Go.Nov
def SS.play (s : SS) : List Ev → Option SS
 | [] => some s
 | e :: l => if s.errA e = 0 then (s.add e).play l else none
end Go.Nov
namespace Go.Nov
theorem Yb {s : SS} {l : List Ev} {i : Nat} (h : i < l.length) : s.play (l.drop i) = if s.errA (l.getD i Ev.nil) = 0 then (s.add (l.getD i Ev.nil)).play (l.drop (i + 1)) else none := by
 rw [List.drop_eq_getElem_cons h, zK h]
 rfl
theorem J8 {s : SS} {e : Ev} (h : s.errA e = 0) : (s.add e).evs = s.evs ++ [e] ∧ s.evs.length < 1000 := by
 have h2 : s.evs.length < 1000 := by
  refine Decidable.byContradiction fun g => ?_
  unfold SS.errA at h
  split at h
  ·cases h
  split at h
  ·cases h
  ·rw [if_pos (by omega)] at h; cases h
 refine ⟨?_, h2⟩
 unfold SS.add
 rw [if_neg (by simpa using h)]
 split <;> rfl
theorem jU {l : List Ev} (h : ∀ e ∈ l, z7 e) (i : Nat) : z7 (l.getD i Ev.nil) := by
 by_cases hi : i < l.length
 ·rw [zK hi]; exact h _ (List.getElem_mem hi)
 ·have : l.getD i Ev.nil = Ev.nil := by simp [List.getD, List.getElem?_eq_none (Nat.le_of_not_lt hi)]
  rw [this]; exact ⟨by decide, by decide, by decide⟩
end Go.Nov
namespace Go.Nov
theorem X3 : ∀ {l : List Ev} {s t : SS}, s.ok → s.evs.length ≤ 1000 → s.play l = some t → t.ok ∧ t.evs = s.evs ++ l ∧ t.evs.length ≤ 1000
 | [], s, t, ho, hl, h => by cases h; exact ⟨ho, by simp, hl⟩
 | e :: l, s, t, ho, hl, h => by
  simp only [SS.play] at h
  by_cases g : s.errA e = 0
  ·rw [if_pos g] at h
   obtain ⟨a1, a2⟩ := J8 g
   obtain ⟨b1, b2, b3⟩ := X3 (V7 ho e) (by rw [a1]; simp; omega) h
   exact ⟨b1, by rw [b2, a1]; simp, b3⟩
  ·rw [if_neg g] at h; cases h
theorem VK : SS.ok ⟨[], []⟩ := ⟨rfl, fun _ _ h => by simp at h, fun _ h => by simp at h⟩
theorem Xa {l : List Ev} {t : SS} (h : SS.play ⟨[], []⟩ l = some t) : t.ok ∧ t.evs = l ∧ t.evs.length ≤ 1000 := by
 obtain ⟨a, b, c⟩ := X3 VK (by simp) h
 exact ⟨a, by simpa using b, c⟩
end Go.Nov
end

/- The store's state: corrections. -/
section
set_option maxRecDepth 100000
open Go Go.Sx Go.Proofs Go.Nov
namespace Go.Proofs.Tryz
attribute [local simp] eqKV eqA eqA0 eqH eqB eqL eqL0
def HSt (s : SS) : Heap := [.box [.osl 1 9 0 s.evs.length, .omap 2, .osl 3 9 0 s.lat.length], .arr s.evs.length 9 (evG s.evs), .map true [.inl .u8, .inr false, .inr false, .inl .i64] (zt s.lat) (z8 s.lat), .arr s.lat.length 9 (evG s.lat)]
noncomputable def Ka : Ctr := inlC Tryz.prog noG 100 Tryz.f54
theorem Ve : ze Tryz.prog 54 Ka := xB hmix zr rfl rfl
def corC : Ctr := ctrM 1 (fun p : SS × Ev => [.ptr 0 0, p.2.av]) (fun p => HSt p.1) (fun p => p.1.ok ∧ p.1.lat.length ≤ 1000 ∧ 0 < p.2.target) (fun p (r : Int) => r = p.1.errC p.2) (fun p r => (.int .i64 r, HSt (p.1.cor p.2)))
noncomputable def GCo : Nat → Option Ctr := fun f => if f = 54 then some (Ka) else none
theorem zg5 : ∀ g c, GCo g = some c → ze Tryz.prog g c := okIf Ve (zn)
theorem zfz : ze Tryz.prog 53 corC := by
 refine Xt (fn := Tryz.f53) (c := Tryz.f53.body.getD .skip) rfl rfl rfl fun p hp O w0 σ0 Q hl0 hq => ?_
 obtain ⟨⟨evs, lat⟩, e⟩ := p
 obtain ⟨ho, hl, ht⟩ := hp
 replace hq := hq _ rfl
 simp only at hq ho hl ht
 refine zc.run hmix zg5 [] 400 (T := .side (decide ((↑lat.length : Int) < Ev.target e) = false → inR .i64 (Ev.target e - (1 : Int))) (.side (decide ((↑lat.length : Int) < Ev.target e) = false → (0 : Int) ≤ Ev.target e - (1 : Int) ∧ Ev.target e - (1 : Int) < lat.length) (.ite (bif decide ((↑lat.length : Int) < Ev.target e) then true else decide (Ev.kind (List.getD lat (0 + Int.toNat (Ev.target e - (1 : Int))) Ev.nil) = (0 : Int))) (.leaf (.ret [.int .i64 6] [.box [.osl 1 9 0 evs.length, .omap 2, .osl 3 9 0 lat.length], .arr evs.length 9 (evG evs), Blk.map true [Sum.inl .u8, Sum.inr false, Sum.inr false, Sum.inl .i64] (zt lat) (z8 lat), .arr lat.length 9 (evG lat), .box [.int .u8 e.kind, .int .i64 e.id, .int .i64 e.entry, .int .i64 e.target, .int .i64 e.date, .str e.zb, .str e.name, .str e.value, .bool e.first]])) (.side (inR .i64 (Ev.target e - (1 : Int))) (.side ((0 : Int) ≤ Ev.target e - (1 : Int) ∧ Ev.target e - (1 : Int) < lat.length) (.ite (decide (Ev.kind e = 5)) (.leaf (.ret [.int .i64 0] [.box [.osl 1 9 0 evs.length, .omap 2, .osl 3 9 0 lat.length], .arr evs.length 9 (evG evs), Blk.map true [Sum.inl .u8, Sum.inr false, Sum.inr false, Sum.inl .i64] (uq (zt lat) [Sum.inl (Ev.kind (List.getD (SS.lat { evs := evs, lat := lat }) (0 + Int.toNat (Ev.target e - (1 : Int))) Ev.nil)), Sum.inr (Ev.zb (List.getD (SS.lat { evs := evs, lat := lat }) (0 + Int.toNat (Ev.target e - (1 : Int))) Ev.nil)), Sum.inr (Ev.name (List.getD (SS.lat { evs := evs, lat := lat }) (0 + Int.toNat (Ev.target e - (1 : Int))) Ev.nil)), Sum.inl (Ev.date (List.getD (SS.lat { evs := evs, lat := lat }) (0 + Int.toNat (Ev.target e - (1 : Int))) Ev.nil))]) (z8 lat), .arr lat.length 9 (updG (evG lat) (0 + Int.toNat (Ev.target e - (1 : Int))) 0 [.int .u8 0, .int .i64 0, .int .i64 0, .int .i64 0, .int .i64 0, .str (Array.toList #[]), .str (Array.toList #[]), .str (Array.toList #[]), .bool false]), .box [.int .u8 e.kind, .int .i64 e.id, .int .i64 e.entry, .int .i64 e.target, .int .i64 e.date, .str e.zb, .str e.name, .str e.value, .bool e.first], .box [.int .u8 (Ev.kind (List.getD lat (0 + Int.toNat (Ev.target e - (1 : Int))) Ev.nil)), .int .i64 (Ev.id (List.getD lat (0 + Int.toNat (Ev.target e - (1 : Int))) Ev.nil)), .int .i64 (Ev.entry (List.getD lat (0 + Int.toNat (Ev.target e - (1 : Int))) Ev.nil)), .int .i64 (Ev.target (List.getD lat (0 + Int.toNat (Ev.target e - (1 : Int))) Ev.nil)), .int .i64 (Ev.date (List.getD lat (0 + Int.toNat (Ev.target e - (1 : Int))) Ev.nil)), .str (Ev.zb (List.getD lat (0 + Int.toNat (Ev.target e - (1 : Int))) Ev.nil)), .str (Ev.name (List.getD lat (0 + Int.toNat (Ev.target e - (1 : Int))) Ev.nil)), .str (Ev.value (List.getD lat (0 + Int.toNat (Ev.target e - (1 : Int))) Ev.nil)), .bool (Ev.first (List.getD lat (0 + Int.toNat (Ev.target e - (1 : Int))) Ev.nil))], .box [.int .u8 (Ev.kind (List.getD lat (0 + Int.toNat (Ev.target e - (1 : Int))) Ev.nil)), .str (Ev.zb (List.getD lat (0 + Int.toNat (Ev.target e - (1 : Int))) Ev.nil)), .str (Ev.name (List.getD lat (0 + Int.toNat (Ev.target e - (1 : Int))) Ev.nil)), .int .i64 (Ev.date (List.getD lat (0 + Int.toNat (Ev.target e - (1 : Int))) Ev.nil))]])) (.ite (!decide (Ev.kind e = 3) == decide (Ev.kind (List.getD lat (0 + Int.toNat (Ev.target e - (1 : Int))) Ev.nil) = (1 : Int))) (.leaf (.ret [.int .i64 32] [.box [.osl 1 9 0 evs.length, .omap 2, .osl 3 9 0 lat.length], .arr evs.length 9 (evG evs), Blk.map true [Sum.inl .u8, Sum.inr false, Sum.inr false, Sum.inl .i64] (zt lat) (z8 lat), .arr lat.length 9 (evG lat), .box [.int .u8 e.kind, .int .i64 e.id, .int .i64 e.entry, .int .i64 e.target, .int .i64 e.date, .str e.zb, .str e.name, .str e.value, .bool e.first]])) (.leaf (.ret [.int .i64 0] [.box [.osl 1 9 0 evs.length, .omap 2, .osl 3 9 0 lat.length], .arr evs.length 9 (evG evs), Blk.map true [Sum.inl .u8, Sum.inr false, Sum.inr false, Sum.inl .i64] (zt lat) (z8 lat), .arr lat.length 9 (updG (updG (evG lat) (0 + Int.toNat (Ev.target e - (1 : Int))) 7 [.str e.value]) (0 + Int.toNat (Ev.target e - (1 : Int))) 8 [.bool e.first]), .box [.int .u8 e.kind, .int .i64 e.id, .int .i64 e.entry, .int .i64 e.target, .int .i64 e.date, .str e.zb, .str e.name, .str e.value, .bool e.first]]))))))))) (by kernel_rfl) ?_
 simp only [Tree.holds, zd]
 have ei : (e.target - 1).toNat = e.target.toNat - 1 := by omega
 simp only [ei, Nat.zero_add, inR, lo, hi]
 have hfx : SS.fact ⟨evs, lat⟩ e = lat.getD (e.target.toNat - 1) Ev.nil := rfl
 have fin : ∀ (r : Int) (h : Heap) (b1 b2 b3 b4 : Blk) (rest : Heap), h = b1 :: b2 :: b3 :: b4 :: rest → r = SS.errC ⟨evs, lat⟩ e → eqH (expH (b1 :: b2 :: b3 :: b4 :: rest) [0, 1, 2, 3]) (HSt (SS.cor ⟨evs, lat⟩ e)) → RetR corC 4 Q [.int .i64 r] h := by
  rintro r h b1 b2 b3 b4 rest rfl rfl he
  exact RetR.keep [0, 1, 2, 3] rfl (by simp) (by show ∀ j, j < 4 → _; decide) rfl hq (by simp [resV, exp2, exp1, exp0, ren0, eqA2, eqL1]) he rfl
 refine ⟨fun h => by have := of_decide_eq_false h; omega, fun _ => ⟨fun h => by have := of_decide_eq_false h; omega, fun _ => ⟨fun h => ?_, fun h => ?_⟩⟩⟩
 ·have h6 : SS.errC ⟨evs, lat⟩ e = 6 := by
   unfold SS.errC
   rw [if_pos]
   rw [hfx]
   cases hd : decide ((lat.length : Int) < e.target) with
   | true => exact .inl (of_decide_eq_true hd)
   | false => rw [hd] at h; exact .inr (of_decide_eq_true h)
  refine fin _ _ _ _ _ _ _ rfl h6.symm ?_
  unfold SS.cor
  rw [if_neg (by rw [h6]; decide)]
  simp [expH, expB, exp1, exp0, ren0, zq, HSt, za]
 ·have h6 : ¬ ((lat.length : Int) < e.target ∨ (SS.fact ⟨evs, lat⟩ e).kind = 0) := by
   rw [hfx]
   cases hd : decide ((lat.length : Int) < e.target) with
   | true => rw [hd] at h; cases h
   | false =>
    rw [hd] at h
    rintro (g | g)
    ·exact absurd g (of_decide_eq_false hd)
    ·exact absurd g (of_decide_eq_false h)
  have hlt : (e.target : Int) ≤ lat.length := by omega
  have hil : e.target.toNat - 1 < lat.length := by omega
  have hk0 : (lat.getD (e.target.toNat - 1) Ev.nil).kind ≠ 0 := fun g => h6 (.inr (by rw [hfx]; exact g))
  refine ⟨by omega, fun _ => ⟨by omega, fun _ => ⟨fun h5 => ?_, fun h5 => ⟨fun h3 => ?_, fun h3 => ?_⟩⟩⟩⟩
  ·have h5 : e.kind = 5 := of_decide_eq_true h5
   have hr : SS.errC ⟨evs, lat⟩ e = 0 := by unfold SS.errC; rw [if_neg h6, if_pos h5]
   refine fin _ _ _ _ _ _ _ rfl hr.symm ?_
   have hc : SS.cor ⟨evs, lat⟩ e = ⟨evs, lat.set (e.target.toNat - 1) Ev.nil⟩ := by unfold SS.cor SS.fixed; rw [if_pos hr, if_pos h5]
   rw [hc]
   refine ⟨by simp [expB, exp1, exp0, ren0, zq], by simp [expB, za], ⟨⟨rfl, .inl rfl⟩, rfl, fun k => zba ho hil hk0 k, fun k hk => ?_⟩, ⟨by simp, rfl, Un hil ?_ ?_⟩, trivial⟩
   ·refine Y4 ho hil ?_
    rw [← zba ho hil hk0 k]
    exact hk
   ·intro o ho
    simp only [updG]
    rcases (show o = 0 ∨ o = 1 ∨ o = 2 ∨ o = 3 ∨ o = 4 ∨ o = 5 ∨ o = 6 ∨ o = 7 ∨ o = 8 by omega) with rfl | rfl | rfl | rfl | rfl | rfl | rfl | rfl | rfl <;> rfl
   ·intro j o hj
    simp only [updG]
    rw [if_neg (fun g => hj g.1)]
  ·have h5 : ¬ e.kind = 5 := of_decide_eq_false h5
   have h32 : decide (e.kind = 3) ≠ decide ((SS.fact ⟨evs, lat⟩ e).kind = 1) := by
    rw [hfx]; intro g; rw [g] at h3; simp at h3
   have hr : SS.errC ⟨evs, lat⟩ e = 32 := by unfold SS.errC; rw [if_neg h6, if_neg h5, if_pos h32]
   refine fin _ _ _ _ _ _ _ rfl hr.symm ?_
   unfold SS.cor
   rw [if_neg (by rw [hr]; decide)]
   simp [expH, expB, exp1, exp0, ren0, zq, HSt, za]
  ·have h5 : ¬ e.kind = 5 := of_decide_eq_false h5
   have h32 : ¬ decide (e.kind = 3) ≠ decide ((SS.fact ⟨evs, lat⟩ e).kind = 1) := by
    rw [hfx]; intro g
    generalize decide (e.kind = 3) = x at h3 g
    generalize decide ((lat.getD (e.target.toNat - 1) Ev.nil).kind = 1) = y at h3 g
    cases x <;> cases y <;> simp at h3 g
   have hr : SS.errC ⟨evs, lat⟩ e = 0 := by unfold SS.errC; rw [if_neg h6, if_neg h5, if_neg h32]
   refine fin _ _ _ _ _ _ _ rfl hr.symm ?_
   have hc : SS.cor ⟨evs, lat⟩ e = ⟨evs, lat.set (e.target.toNat - 1) { lat.getD (e.target.toNat - 1) Ev.nil with value := e.value, first := e.first }⟩ := by unfold SS.cor SS.fixed; rw [if_pos hr, if_neg h5]; rfl
   rw [hc]
   have lv := fun k => zf8 (l := lat) (i := e.target.toNat - 1) (y := { lat.getD (e.target.toNat - 1) Ev.nil with value := e.value, first := e.first }) hil rfl rfl k
   refine ⟨by simp [expB, exp1, exp0, ren0, zq], by simp [expB, za], ⟨⟨rfl, .inl rfl⟩, rfl, fun k => (lv k).1, fun k _ => (lv k).2⟩, ⟨by simp, rfl, Un hil ?_ ?_⟩, trivial⟩
   ·intro o ho
    simp only [updG]
    rcases (show o = 0 ∨ o = 1 ∨ o = 2 ∨ o = 3 ∨ o = 4 ∨ o = 5 ∨ o = 6 ∨ o = 7 ∨ o = 8 by omega) with rfl | rfl | rfl | rfl | rfl | rfl | rfl | rfl | rfl <;> rfl
   ·intro j o hj
    simp only [updG]
    rw [if_neg (fun g => hj g.1), if_neg (fun g => hj g.1)]
end Go.Proofs.Tryz
end

/- The store's state: events added. -/
section
set_option maxRecDepth 100000
open Go Go.Sx Go.Proofs Go.Nov
namespace Go.Proofs.Tryz
attribute [local simp] eqKV eqA eqA0 eqH eqB eqL eqL0
theorem vV {A B : Prop} (ha : A) (hb : B) : (∃ _ : Bool, True) ∧ ∀ n : Bool, True → (n = true → A) ∧ (n = false → B) := ⟨⟨true, trivial⟩, fun _ _ => ⟨fun _ => ha, fun _ => hb⟩⟩
theorem vU (x y : Bool) : (bif x then y else false) = (x && y) := by cases x <;> rfl
def addC : Ctr := ctrM 1 (fun p : SS × Ev => [.ptr 0 0, p.2.av]) (fun p => HSt p.1) (fun p => p.1.ok ∧ p.1.evs.length ≤ 1000 ∧ z7 p.2) (fun p (r : Int) => r = p.1.errA p.2) (fun p r => (.int .i64 r, HSt (p.1.add p.2)))
noncomputable def GAd : Nat → Option Ctr := fun f => if f = 54 then some (Ka) else if f = 53 then some (corC) else if f = 52 then some (Zc) else none
theorem zfj : ∀ g c, GAd g = some c → ze Tryz.prog g c := okIf Ve (okIf zfz (okIf YB (zn)))
theorem zdu : ze Tryz.prog 33 addC := by
 refine Xt (fn := Tryz.f33) (c := Tryz.f33.body.getD .skip) rfl rfl rfl fun p hp O w0 σ0 Q hl0 hq => ?_
 obtain ⟨⟨evs, lat⟩, e⟩ := p
 obtain ⟨ho, hl, hs⟩ := hp
 replace hq := hq _ rfl
 simp only at hq ho hl hs
 refine zc.run hmix zfj [] 400 (T := .ex (fun (x : Ev) => eqL [AV.agg [AV.int .u8 e.kind, AV.int .i64 e.id, AV.int .i64 e.entry, AV.int .i64 e.target, AV.int .i64 e.date, AV.str e.zb, AV.str e.name, AV.str e.value, AV.bool e.first]] [AV.agg [AV.int .u8 x.kind, AV.int .i64 x.id, AV.int .i64 x.entry, AV.int .i64 x.target, AV.int .i64 x.date, AV.str x.zb, AV.str x.name, AV.str x.value, AV.bool x.first]] ∧ z7 x) fun n => .all (fun (r : Int) => r = if Ev.valid n = true then (0 : Int) else (8 : Int)) fun n => .side ((!decide (n = 0)) = false → inR .i64 ((↑evs.length : Int) + (1 : Int))) (.ite (bif !decide (n = 0) then true else !decide (Ev.id e = (↑evs.length : Int) + (1 : Int))) (.leaf (.ret [.int .i64 2] [.box [.osl 1 9 0 evs.length, .omap 2, .osl 3 9 0 lat.length], .arr evs.length 9 (evG evs), Blk.map true [Sum.inl .u8, Sum.inr false, Sum.inr false, Sum.inl .i64] (zt lat) (z8 lat), .arr lat.length 9 (evG lat), .box [.int .u8 e.kind, .int .i64 e.id, .int .i64 e.entry, .int .i64 e.target, .int .i64 e.date, .str e.zb, .str e.name, .str e.value, .bool e.first]])) (.side (decide ((0 : Int) < evs.length) = true → inR .i64 ((↑evs.length : Int) - (1 : Int))) (.side (decide ((0 : Int) < evs.length) = true → (0 : Int) ≤ evs.length - (1 : Int) ∧ (↑evs.length : Int) - (1 : Int) < evs.length) (.ite (bif decide ((0 : Int) < evs.length) then decide (Ev.entry e < Ev.entry (List.getD evs (0 + Int.toNat ((↑evs.length : Int) - (1 : Int))) Ev.nil)) else false) (.leaf (.ret [.int .i64 21] [.box [.osl 1 9 0 evs.length, .omap 2, .osl 3 9 0 lat.length], .arr evs.length 9 (evG evs), Blk.map true [Sum.inl .u8, Sum.inr false, Sum.inr false, Sum.inl .i64] (zt lat) (z8 lat), .arr lat.length 9 (evG lat), .box [.int .u8 e.kind, .int .i64 e.id, .int .i64 e.entry, .int .i64 e.target, .int .i64 e.date, .str e.zb, .str e.name, .str e.value, .bool e.first]])) (.ite (decide ((1000 : Int) ≤ evs.length)) (.leaf (.ret [.int .i64 22] [.box [.osl 1 9 0 evs.length, .omap 2, .osl 3 9 0 lat.length], .arr evs.length 9 (evG evs), Blk.map true [Sum.inl .u8, Sum.inr false, Sum.inr false, Sum.inl .i64] (zt lat) (z8 lat), .arr lat.length 9 (evG lat), .box [.int .u8 e.kind, .int .i64 e.id, .int .i64 e.entry, .int .i64 e.target, .int .i64 e.date, .str e.zb, .str e.name, .str e.value, .bool e.first]])) (.ite (decide ((0 : Int) < Ev.target e)) (.ex (fun (x : SS × Ev) => eqL [AV.ptr 0 0, AV.agg [AV.int .u8 e.kind, AV.int .i64 e.id, AV.int .i64 e.entry, AV.int .i64 e.target, AV.int .i64 e.date, AV.str e.zb, AV.str e.name, AV.str e.value, AV.bool e.first]] [AV.ptr 0 0, AV.agg [AV.int .u8 x.2.kind, AV.int .i64 x.2.id, AV.int .i64 x.2.entry, AV.int .i64 x.2.target, AV.int .i64 x.2.date, AV.str x.2.zb, AV.str x.2.name, AV.str x.2.value, AV.bool x.2.first]] ∧ eqH [.box [AV.osl 1 9 0 evs.length, AV.omap 2, AV.osl 3 9 0 lat.length], .arr evs.length 9 (evG evs), Blk.map true [Sum.inl .u8, Sum.inr false, Sum.inr false, Sum.inl .i64] (zt lat) (z8 lat), .arr lat.length 9 (evG lat)] [.box [AV.osl 1 9 0 (List.length (SS.evs x.1)), AV.omap 2, AV.osl 3 9 0 (List.length (SS.lat x.1))], .arr (List.length (SS.evs x.1)) 9 (evG (SS.evs x.1)), Blk.map true [Sum.inl .u8, Sum.inr false, Sum.inr false, Sum.inl .i64] (zt (SS.lat x.1)) (z8 (SS.lat x.1)), .arr (List.length (SS.lat x.1)) 9 (evG (SS.lat x.1))] ∧ 4 = 4 ∧ SS.ok x.1 ∧ List.length (SS.lat x.1) ≤ 1000 ∧ (0 : Int) < Ev.target x.2) fun n => .all (fun (r : Int) => r = SS.errC n.1 n.2) fun n_1 => .ite (!decide (n_1 = 0)) (.leaf (.ret [.int .i64 n_1] [.box [.osl 1 9 0 (List.length (SS.evs (SS.cor n.1 n.2))), .omap 2, .osl 3 9 0 (List.length (SS.lat (SS.cor n.1 n.2)))], .arr (List.length (SS.evs (SS.cor n.1 n.2))) 9 (evG (SS.evs (SS.cor n.1 n.2))), Blk.map true [Sum.inl .u8, Sum.inr false, Sum.inr false, Sum.inl .i64] (zt (SS.lat (SS.cor n.1 n.2))) (z8 (SS.lat (SS.cor n.1 n.2))), .arr (List.length (SS.lat (SS.cor n.1 n.2))) 9 (evG (SS.lat (SS.cor n.1 n.2))), .box [.int .u8 e.kind, .int .i64 e.id, .int .i64 e.entry, .int .i64 e.target, .int .i64 e.date, .str e.zb, .str e.name, .str e.value, .bool e.first], .box [.int .u8 0, .int .i64 0, .int .i64 0, .int .i64 0, .int .i64 0, .str (Array.toList #[]), .str (Array.toList #[]), .str (Array.toList #[]), .bool false]])) (.all (fun (x : Bool) => True) fun n_2 => .ite n_2 (.all (fun (x : Bool) => True) fun n_3 => .ite n_3 (.side (0 = 0 ∧ List.length (SS.evs (SS.cor n.1 n.2)) ≤ List.length (SS.evs (SS.cor n.1 n.2)) ∧ (List.length (SS.evs (SS.cor n.1 n.2)) + 1) * 96 ≤ 140737488355328) (.side (0 = 0 ∧ List.length (SS.lat (SS.cor n.1 n.2)) = List.length (SS.lat (SS.cor n.1 n.2))) (.side (0 = 0 ∧ List.length (SS.lat (SS.cor n.1 n.2)) ≤ List.length (SS.lat (SS.cor n.1 n.2)) ∧ (List.length (SS.lat (SS.cor n.1 n.2)) + 1) * 96 ≤ 140737488355328) (.leaf (.ret [.int .i64 0] [.box [.osl 1 9 0 (List.length (SS.evs (SS.cor n.1 n.2)) + 1), .omap 2, .osl 3 9 0 (List.length (SS.lat (SS.cor n.1 n.2)) + 1)], .arr (List.length (SS.evs (SS.cor n.1 n.2)) + 1) 9 (appG (List.length (SS.evs (SS.cor n.1 n.2))) (evG (SS.evs (SS.cor n.1 n.2))) (zg (zf 9 [.int .u8 e.kind, .int .i64 e.id, .int .i64 e.entry, .int .i64 e.target, .int .i64 e.date, .str e.zb, .str e.name, .str e.value, .bool e.first]) 0)), Blk.map true [Sum.inl .u8, Sum.inr false, Sum.inr false, Sum.inl .i64] (zt (SS.lat (SS.cor n.1 n.2))) (z8 (SS.lat (SS.cor n.1 n.2))), .arr (List.length (SS.lat (SS.cor n.1 n.2)) + 1) 9 (appG (List.length (SS.lat (SS.cor n.1 n.2))) (evG (SS.lat (SS.cor n.1 n.2))) (zg (zf 9 [.int .u8 0, .int .i64 0, .int .i64 0, .int .i64 0, .int .i64 0, .str (Array.toList #[]), .str (Array.toList #[]), .str (Array.toList #[]), .bool false]) 0)), .box [.int .u8 e.kind, .int .i64 e.id, .int .i64 e.entry, .int .i64 e.target, .int .i64 e.date, .str e.zb, .str e.name, .str e.value, .bool e.first], .box [.int .u8 0, .int .i64 0, .int .i64 0, .int .i64 0, .int .i64 0, .str (Array.toList #[]), .str (Array.toList #[]), .str (Array.toList #[]), .bool false], .arr 1 9 (zf 9 [.int .u8 e.kind, .int .i64 e.id, .int .i64 e.entry, .int .i64 e.target, .int .i64 e.date, .str e.zb, .str e.name, .str e.value, .bool e.first]), .arr 1 9 (zf 9 [.int .u8 0, .int .i64 0, .int .i64 0, .int .i64 0, .int .i64 0, .str (Array.toList #[]), .str (Array.toList #[]), .str (Array.toList #[]), .bool false])]))))) (.side (0 = 0 ∧ List.length (SS.evs (SS.cor n.1 n.2)) ≤ List.length (SS.evs (SS.cor n.1 n.2)) ∧ (List.length (SS.evs (SS.cor n.1 n.2)) + 1) * 96 ≤ 140737488355328) (.side (0 = 0 ∧ List.length (SS.lat (SS.cor n.1 n.2)) = List.length (SS.lat (SS.cor n.1 n.2))) (.side (0 = 0 ∧ List.length (SS.lat (SS.cor n.1 n.2)) ≤ List.length (SS.lat (SS.cor n.1 n.2)) ∧ (List.length (SS.lat (SS.cor n.1 n.2)) + 1) * 96 ≤ 140737488355328) (.leaf (.ret [.int .i64 0] [.box [.osl 1 9 0 (List.length (SS.evs (SS.cor n.1 n.2)) + 1), .omap 2, .osl 3 9 0 (List.length (SS.lat (SS.cor n.1 n.2)) + 1)], .arr (List.length (SS.evs (SS.cor n.1 n.2)) + 1) 9 (appG (List.length (SS.evs (SS.cor n.1 n.2))) (evG (SS.evs (SS.cor n.1 n.2))) (zg (zf 9 [.int .u8 e.kind, .int .i64 e.id, .int .i64 e.entry, .int .i64 e.target, .int .i64 e.date, .str e.zb, .str e.name, .str e.value, .bool e.first]) 0)), Blk.map true [Sum.inl .u8, Sum.inr false, Sum.inr false, Sum.inl .i64] (zt (SS.lat (SS.cor n.1 n.2))) (z8 (SS.lat (SS.cor n.1 n.2))), .arr (List.length (SS.lat (SS.cor n.1 n.2)) + 1) 9 (appG (List.length (SS.lat (SS.cor n.1 n.2))) (evG (SS.lat (SS.cor n.1 n.2))) (zg (zf 9 [.int .u8 0, .int .i64 0, .int .i64 0, .int .i64 0, .int .i64 0, .str (Array.toList #[]), .str (Array.toList #[]), .str (Array.toList #[]), .bool false]) 0)), .box [.int .u8 e.kind, .int .i64 e.id, .int .i64 e.entry, .int .i64 e.target, .int .i64 e.date, .str e.zb, .str e.name, .str e.value, .bool e.first], .box [.int .u8 0, .int .i64 0, .int .i64 0, .int .i64 0, .int .i64 0, .str (Array.toList #[]), .str (Array.toList #[]), .str (Array.toList #[]), .bool false], .arr 1 9 (zf 9 [.int .u8 e.kind, .int .i64 e.id, .int .i64 e.entry, .int .i64 e.target, .int .i64 e.date, .str e.zb, .str e.name, .str e.value, .bool e.first]), .arr 1 9 (zf 9 [.int .u8 0, .int .i64 0, .int .i64 0, .int .i64 0, .int .i64 0, .str (Array.toList #[]), .str (Array.toList #[]), .str (Array.toList #[]), .bool false])])))))) (.side (0 = 0 ∧ List.length (SS.evs (SS.cor n.1 n.2)) ≤ List.length (SS.evs (SS.cor n.1 n.2)) ∧ (List.length (SS.evs (SS.cor n.1 n.2)) + 1) * 96 ≤ 140737488355328) (.side (0 = 0 ∧ List.length (SS.lat (SS.cor n.1 n.2)) = List.length (SS.lat (SS.cor n.1 n.2))) (.side (0 = 0 ∧ List.length (SS.lat (SS.cor n.1 n.2)) ≤ List.length (SS.lat (SS.cor n.1 n.2)) ∧ (List.length (SS.lat (SS.cor n.1 n.2)) + 1) * 96 ≤ 140737488355328) (.leaf (.ret [.int .i64 0] [.box [.osl 1 9 0 (List.length (SS.evs (SS.cor n.1 n.2)) + 1), .omap 2, .osl 3 9 0 (List.length (SS.lat (SS.cor n.1 n.2)) + 1)], .arr (List.length (SS.evs (SS.cor n.1 n.2)) + 1) 9 (appG (List.length (SS.evs (SS.cor n.1 n.2))) (evG (SS.evs (SS.cor n.1 n.2))) (zg (zf 9 [.int .u8 e.kind, .int .i64 e.id, .int .i64 e.entry, .int .i64 e.target, .int .i64 e.date, .str e.zb, .str e.name, .str e.value, .bool e.first]) 0)), Blk.map true [Sum.inl .u8, Sum.inr false, Sum.inr false, Sum.inl .i64] (zt (SS.lat (SS.cor n.1 n.2))) (z8 (SS.lat (SS.cor n.1 n.2))), .arr (List.length (SS.lat (SS.cor n.1 n.2)) + 1) 9 (appG (List.length (SS.lat (SS.cor n.1 n.2))) (evG (SS.lat (SS.cor n.1 n.2))) (zg (zf 9 [.int .u8 0, .int .i64 0, .int .i64 0, .int .i64 0, .int .i64 0, .str (Array.toList #[]), .str (Array.toList #[]), .str (Array.toList #[]), .bool false]) 0)), .box [.int .u8 e.kind, .int .i64 e.id, .int .i64 e.entry, .int .i64 e.target, .int .i64 e.date, .str e.zb, .str e.name, .str e.value, .bool e.first], .box [.int .u8 0, .int .i64 0, .int .i64 0, .int .i64 0, .int .i64 0, .str (Array.toList #[]), .str (Array.toList #[]), .str (Array.toList #[]), .bool false], .arr 1 9 (zf 9 [.int .u8 0, .int .i64 0, .int .i64 0, .int .i64 0, .int .i64 0, .str (Array.toList #[]), .str (Array.toList #[]), .str (Array.toList #[]), .bool false]), .arr 1 9 (zf 9 [.int .u8 e.kind, .int .i64 e.id, .int .i64 e.entry, .int .i64 e.target, .int .i64 e.date, .str e.zb, .str e.name, .str e.value, .bool e.first])]))))))) (.ite (zt lat [Sum.inl e.kind, Sum.inr e.zb, Sum.inr e.name, Sum.inl e.date]) (.ite (decide ((0 : Int) < (↑(List.findIdx (Ev.jt [Sum.inl e.kind, Sum.inr e.zb, Sum.inr e.name, Sum.inl e.date]) lat) : Int) + (1 : Int))) (.leaf (.ret [.int .i64 24] [.box [.osl 1 9 0 evs.length, .omap 2, .osl 3 9 0 lat.length], .arr evs.length 9 (evG evs), Blk.map true [Sum.inl .u8, Sum.inr false, Sum.inr false, Sum.inl .i64] (zt lat) (z8 lat), .arr lat.length 9 (evG lat), .box [.int .u8 e.kind, .int .i64 e.id, .int .i64 e.entry, .int .i64 e.target, .int .i64 e.date, .str e.zb, .str e.name, .str e.value, .bool e.first], .box [.int .u8 0, .int .i64 0, .int .i64 0, .int .i64 0, .int .i64 0, .str (Array.toList #[]), .str (Array.toList #[]), .str (Array.toList #[]), .bool false], .box [.int .u8 e.kind, .int .i64 e.id, .int .i64 e.entry, .int .i64 e.target, .int .i64 e.date, .str e.zb, .str e.name, .str e.value, .bool e.first], .box [.int .u8 e.kind, .str e.zb, .str e.name, .int .i64 e.date]])) (.all (fun (x : Int) => True) fun n => .side (n = n) (.all (fun (x : Bool) => True) fun n => .ite n (.all (fun (x : Bool) => True) fun n => .ite n (.side (0 = 0 ∧ evs.length ≤ evs.length ∧ (evs.length + 1) * 96 ≤ 140737488355328) (.side (0 = 0 ∧ lat.length = lat.length) (.side (0 = 0 ∧ lat.length ≤ lat.length ∧ (lat.length + 1) * 96 ≤ 140737488355328) (.leaf (.ret [.int .i64 0] [.box [.osl 1 9 0 (evs.length + 1), .omap 2, .osl 3 9 0 (lat.length + 1)], .arr (evs.length + 1) 9 (appG evs.length (evG evs) (zg (zf 9 [.int .u8 e.kind, .int .i64 e.id, .int .i64 e.entry, .int .i64 e.target, .int .i64 e.date, .str e.zb, .str e.name, .str e.value, .bool e.first]) 0)), Blk.map true [Sum.inl .u8, Sum.inr false, Sum.inr false, Sum.inl .i64] (jl (zt lat) [Sum.inl e.kind, Sum.inr e.zb, Sum.inr e.name, Sum.inl e.date]) (zH (zH (z8 lat) [Sum.inl e.kind, Sum.inr e.zb, Sum.inr e.name, Sum.inl e.date] .undef) [Sum.inl e.kind, Sum.inr e.zb, Sum.inr e.name, Sum.inl e.date] (.int .i64 e.id)), .arr (lat.length + 1) 9 (appG lat.length (evG lat) (zg (zf 9 [.int .u8 e.kind, .int .i64 e.id, .int .i64 e.entry, .int .i64 e.target, .int .i64 e.date, .str e.zb, .str e.name, .str e.value, .bool e.first]) 0)), .box [.int .u8 e.kind, .int .i64 e.id, .int .i64 e.entry, .int .i64 e.target, .int .i64 e.date, .str e.zb, .str e.name, .str e.value, .bool e.first], .box [.int .u8 e.kind, .int .i64 e.id, .int .i64 e.entry, .int .i64 e.target, .int .i64 e.date, .str e.zb, .str e.name, .str e.value, .bool e.first], .box [.int .u8 e.kind, .int .i64 e.id, .int .i64 e.entry, .int .i64 e.target, .int .i64 e.date, .str e.zb, .str e.name, .str e.value, .bool e.first], .box [.int .u8 e.kind, .str e.zb, .str e.name, .int .i64 e.date], .box [.int .u8 e.kind, .int .i64 e.id, .int .i64 e.entry, .int .i64 e.target, .int .i64 e.date, .str e.zb, .str e.name, .str e.value, .bool e.first], .box [.int .u8 e.kind, .str e.zb, .str e.name, .int .i64 e.date], .arr 1 9 (zf 9 [.int .u8 e.kind, .int .i64 e.id, .int .i64 e.entry, .int .i64 e.target, .int .i64 e.date, .str e.zb, .str e.name, .str e.value, .bool e.first]), .arr 1 9 (zf 9 [.int .u8 e.kind, .int .i64 e.id, .int .i64 e.entry, .int .i64 e.target, .int .i64 e.date, .str e.zb, .str e.name, .str e.value, .bool e.first])]))))) (.side (0 = 0 ∧ evs.length ≤ evs.length ∧ (evs.length + 1) * 96 ≤ 140737488355328) (.side (0 = 0 ∧ lat.length = lat.length) (.side (0 = 0 ∧ lat.length ≤ lat.length ∧ (lat.length + 1) * 96 ≤ 140737488355328) (.leaf (.ret [.int .i64 0] [.box [.osl 1 9 0 (evs.length + 1), .omap 2, .osl 3 9 0 (lat.length + 1)], .arr (evs.length + 1) 9 (appG evs.length (evG evs) (zg (zf 9 [.int .u8 e.kind, .int .i64 e.id, .int .i64 e.entry, .int .i64 e.target, .int .i64 e.date, .str e.zb, .str e.name, .str e.value, .bool e.first]) 0)), Blk.map true [Sum.inl .u8, Sum.inr false, Sum.inr false, Sum.inl .i64] (jl (zt lat) [Sum.inl e.kind, Sum.inr e.zb, Sum.inr e.name, Sum.inl e.date]) (zH (zH (z8 lat) [Sum.inl e.kind, Sum.inr e.zb, Sum.inr e.name, Sum.inl e.date] .undef) [Sum.inl e.kind, Sum.inr e.zb, Sum.inr e.name, Sum.inl e.date] (.int .i64 e.id)), .arr (lat.length + 1) 9 (appG lat.length (evG lat) (zg (zf 9 [.int .u8 e.kind, .int .i64 e.id, .int .i64 e.entry, .int .i64 e.target, .int .i64 e.date, .str e.zb, .str e.name, .str e.value, .bool e.first]) 0)), .box [.int .u8 e.kind, .int .i64 e.id, .int .i64 e.entry, .int .i64 e.target, .int .i64 e.date, .str e.zb, .str e.name, .str e.value, .bool e.first], .box [.int .u8 e.kind, .int .i64 e.id, .int .i64 e.entry, .int .i64 e.target, .int .i64 e.date, .str e.zb, .str e.name, .str e.value, .bool e.first], .box [.int .u8 e.kind, .int .i64 e.id, .int .i64 e.entry, .int .i64 e.target, .int .i64 e.date, .str e.zb, .str e.name, .str e.value, .bool e.first], .box [.int .u8 e.kind, .str e.zb, .str e.name, .int .i64 e.date], .box [.int .u8 e.kind, .int .i64 e.id, .int .i64 e.entry, .int .i64 e.target, .int .i64 e.date, .str e.zb, .str e.name, .str e.value, .bool e.first], .box [.int .u8 e.kind, .str e.zb, .str e.name, .int .i64 e.date], .arr 1 9 (zf 9 [.int .u8 e.kind, .int .i64 e.id, .int .i64 e.entry, .int .i64 e.target, .int .i64 e.date, .str e.zb, .str e.name, .str e.value, .bool e.first]), .arr 1 9 (zf 9 [.int .u8 e.kind, .int .i64 e.id, .int .i64 e.entry, .int .i64 e.target, .int .i64 e.date, .str e.zb, .str e.name, .str e.value, .bool e.first])])))))) (.side (0 = 0 ∧ evs.length ≤ evs.length ∧ (evs.length + 1) * 96 ≤ 140737488355328) (.side (0 = 0 ∧ lat.length = lat.length) (.side (0 = 0 ∧ lat.length ≤ lat.length ∧ (lat.length + 1) * 96 ≤ 140737488355328) (.leaf (.ret [.int .i64 0] [.box [.osl 1 9 0 (evs.length + 1), .omap 2, .osl 3 9 0 (lat.length + 1)], .arr (evs.length + 1) 9 (appG evs.length (evG evs) (zg (zf 9 [.int .u8 e.kind, .int .i64 e.id, .int .i64 e.entry, .int .i64 e.target, .int .i64 e.date, .str e.zb, .str e.name, .str e.value, .bool e.first]) 0)), Blk.map true [Sum.inl .u8, Sum.inr false, Sum.inr false, Sum.inl .i64] (jl (zt lat) [Sum.inl e.kind, Sum.inr e.zb, Sum.inr e.name, Sum.inl e.date]) (zH (zH (z8 lat) [Sum.inl e.kind, Sum.inr e.zb, Sum.inr e.name, Sum.inl e.date] .undef) [Sum.inl e.kind, Sum.inr e.zb, Sum.inr e.name, Sum.inl e.date] (.int .i64 e.id)), .arr (lat.length + 1) 9 (appG lat.length (evG lat) (zg (zf 9 [.int .u8 e.kind, .int .i64 e.id, .int .i64 e.entry, .int .i64 e.target, .int .i64 e.date, .str e.zb, .str e.name, .str e.value, .bool e.first]) 0)), .box [.int .u8 e.kind, .int .i64 e.id, .int .i64 e.entry, .int .i64 e.target, .int .i64 e.date, .str e.zb, .str e.name, .str e.value, .bool e.first], .box [.int .u8 e.kind, .int .i64 e.id, .int .i64 e.entry, .int .i64 e.target, .int .i64 e.date, .str e.zb, .str e.name, .str e.value, .bool e.first], .box [.int .u8 e.kind, .int .i64 e.id, .int .i64 e.entry, .int .i64 e.target, .int .i64 e.date, .str e.zb, .str e.name, .str e.value, .bool e.first], .box [.int .u8 e.kind, .str e.zb, .str e.name, .int .i64 e.date], .box [.int .u8 e.kind, .int .i64 e.id, .int .i64 e.entry, .int .i64 e.target, .int .i64 e.date, .str e.zb, .str e.name, .str e.value, .bool e.first], .box [.int .u8 e.kind, .str e.zb, .str e.name, .int .i64 e.date], .arr 1 9 (zf 9 [.int .u8 e.kind, .int .i64 e.id, .int .i64 e.entry, .int .i64 e.target, .int .i64 e.date, .str e.zb, .str e.name, .str e.value, .bool e.first]), .arr 1 9 (zf 9 [.int .u8 e.kind, .int .i64 e.id, .int .i64 e.entry, .int .i64 e.target, .int .i64 e.date, .str e.zb, .str e.name, .str e.value, .bool e.first])])))))))) (.ite false (.leaf (.ret [.int .i64 24] [.box [.osl 1 9 0 evs.length, .omap 2, .osl 3 9 0 lat.length], .arr evs.length 9 (evG evs), Blk.map true [Sum.inl .u8, Sum.inr false, Sum.inr false, Sum.inl .i64] (zt lat) (z8 lat), .arr lat.length 9 (evG lat), .box [.int .u8 e.kind, .int .i64 e.id, .int .i64 e.entry, .int .i64 e.target, .int .i64 e.date, .str e.zb, .str e.name, .str e.value, .bool e.first], .box [.int .u8 0, .int .i64 0, .int .i64 0, .int .i64 0, .int .i64 0, .str (Array.toList #[]), .str (Array.toList #[]), .str (Array.toList #[]), .bool false], .box [.int .u8 e.kind, .int .i64 e.id, .int .i64 e.entry, .int .i64 e.target, .int .i64 e.date, .str e.zb, .str e.name, .str e.value, .bool e.first], .box [.int .u8 e.kind, .str e.zb, .str e.name, .int .i64 e.date]])) (.all (fun (x : Int) => True) fun n => .side (n = n) (.all (fun (x : Bool) => True) fun n => .ite n (.all (fun (x : Bool) => True) fun n => .ite n (.side (0 = 0 ∧ evs.length ≤ evs.length ∧ (evs.length + 1) * 96 ≤ 140737488355328) (.side (0 = 0 ∧ lat.length = lat.length) (.side (0 = 0 ∧ lat.length ≤ lat.length ∧ (lat.length + 1) * 96 ≤ 140737488355328) (.leaf (.ret [.int .i64 0] [.box [.osl 1 9 0 (evs.length + 1), .omap 2, .osl 3 9 0 (lat.length + 1)], .arr (evs.length + 1) 9 (appG evs.length (evG evs) (zg (zf 9 [.int .u8 e.kind, .int .i64 e.id, .int .i64 e.entry, .int .i64 e.target, .int .i64 e.date, .str e.zb, .str e.name, .str e.value, .bool e.first]) 0)), Blk.map true [Sum.inl .u8, Sum.inr false, Sum.inr false, Sum.inl .i64] (jl (zt lat) [Sum.inl e.kind, Sum.inr e.zb, Sum.inr e.name, Sum.inl e.date]) (zH (zH (z8 lat) [Sum.inl e.kind, Sum.inr e.zb, Sum.inr e.name, Sum.inl e.date] .undef) [Sum.inl e.kind, Sum.inr e.zb, Sum.inr e.name, Sum.inl e.date] (.int .i64 e.id)), .arr (lat.length + 1) 9 (appG lat.length (evG lat) (zg (zf 9 [.int .u8 e.kind, .int .i64 e.id, .int .i64 e.entry, .int .i64 e.target, .int .i64 e.date, .str e.zb, .str e.name, .str e.value, .bool e.first]) 0)), .box [.int .u8 e.kind, .int .i64 e.id, .int .i64 e.entry, .int .i64 e.target, .int .i64 e.date, .str e.zb, .str e.name, .str e.value, .bool e.first], .box [.int .u8 e.kind, .int .i64 e.id, .int .i64 e.entry, .int .i64 e.target, .int .i64 e.date, .str e.zb, .str e.name, .str e.value, .bool e.first], .box [.int .u8 e.kind, .int .i64 e.id, .int .i64 e.entry, .int .i64 e.target, .int .i64 e.date, .str e.zb, .str e.name, .str e.value, .bool e.first], .box [.int .u8 e.kind, .str e.zb, .str e.name, .int .i64 e.date], .box [.int .u8 e.kind, .int .i64 e.id, .int .i64 e.entry, .int .i64 e.target, .int .i64 e.date, .str e.zb, .str e.name, .str e.value, .bool e.first], .box [.int .u8 e.kind, .str e.zb, .str e.name, .int .i64 e.date], .arr 1 9 (zf 9 [.int .u8 e.kind, .int .i64 e.id, .int .i64 e.entry, .int .i64 e.target, .int .i64 e.date, .str e.zb, .str e.name, .str e.value, .bool e.first]), .arr 1 9 (zf 9 [.int .u8 e.kind, .int .i64 e.id, .int .i64 e.entry, .int .i64 e.target, .int .i64 e.date, .str e.zb, .str e.name, .str e.value, .bool e.first])]))))) (.side (0 = 0 ∧ evs.length ≤ evs.length ∧ (evs.length + 1) * 96 ≤ 140737488355328) (.side (0 = 0 ∧ lat.length = lat.length) (.side (0 = 0 ∧ lat.length ≤ lat.length ∧ (lat.length + 1) * 96 ≤ 140737488355328) (.leaf (.ret [.int .i64 0] [.box [.osl 1 9 0 (evs.length + 1), .omap 2, .osl 3 9 0 (lat.length + 1)], .arr (evs.length + 1) 9 (appG evs.length (evG evs) (zg (zf 9 [.int .u8 e.kind, .int .i64 e.id, .int .i64 e.entry, .int .i64 e.target, .int .i64 e.date, .str e.zb, .str e.name, .str e.value, .bool e.first]) 0)), Blk.map true [Sum.inl .u8, Sum.inr false, Sum.inr false, Sum.inl .i64] (jl (zt lat) [Sum.inl e.kind, Sum.inr e.zb, Sum.inr e.name, Sum.inl e.date]) (zH (zH (z8 lat) [Sum.inl e.kind, Sum.inr e.zb, Sum.inr e.name, Sum.inl e.date] .undef) [Sum.inl e.kind, Sum.inr e.zb, Sum.inr e.name, Sum.inl e.date] (.int .i64 e.id)), .arr (lat.length + 1) 9 (appG lat.length (evG lat) (zg (zf 9 [.int .u8 e.kind, .int .i64 e.id, .int .i64 e.entry, .int .i64 e.target, .int .i64 e.date, .str e.zb, .str e.name, .str e.value, .bool e.first]) 0)), .box [.int .u8 e.kind, .int .i64 e.id, .int .i64 e.entry, .int .i64 e.target, .int .i64 e.date, .str e.zb, .str e.name, .str e.value, .bool e.first], .box [.int .u8 e.kind, .int .i64 e.id, .int .i64 e.entry, .int .i64 e.target, .int .i64 e.date, .str e.zb, .str e.name, .str e.value, .bool e.first], .box [.int .u8 e.kind, .int .i64 e.id, .int .i64 e.entry, .int .i64 e.target, .int .i64 e.date, .str e.zb, .str e.name, .str e.value, .bool e.first], .box [.int .u8 e.kind, .str e.zb, .str e.name, .int .i64 e.date], .box [.int .u8 e.kind, .int .i64 e.id, .int .i64 e.entry, .int .i64 e.target, .int .i64 e.date, .str e.zb, .str e.name, .str e.value, .bool e.first], .box [.int .u8 e.kind, .str e.zb, .str e.name, .int .i64 e.date], .arr 1 9 (zf 9 [.int .u8 e.kind, .int .i64 e.id, .int .i64 e.entry, .int .i64 e.target, .int .i64 e.date, .str e.zb, .str e.name, .str e.value, .bool e.first]), .arr 1 9 (zf 9 [.int .u8 e.kind, .int .i64 e.id, .int .i64 e.entry, .int .i64 e.target, .int .i64 e.date, .str e.zb, .str e.name, .str e.value, .bool e.first])])))))) (.side (0 = 0 ∧ evs.length ≤ evs.length ∧ (evs.length + 1) * 96 ≤ 140737488355328) (.side (0 = 0 ∧ lat.length = lat.length) (.side (0 = 0 ∧ lat.length ≤ lat.length ∧ (lat.length + 1) * 96 ≤ 140737488355328) (.leaf (.ret [.int .i64 0] [.box [.osl 1 9 0 (evs.length + 1), .omap 2, .osl 3 9 0 (lat.length + 1)], .arr (evs.length + 1) 9 (appG evs.length (evG evs) (zg (zf 9 [.int .u8 e.kind, .int .i64 e.id, .int .i64 e.entry, .int .i64 e.target, .int .i64 e.date, .str e.zb, .str e.name, .str e.value, .bool e.first]) 0)), Blk.map true [Sum.inl .u8, Sum.inr false, Sum.inr false, Sum.inl .i64] (jl (zt lat) [Sum.inl e.kind, Sum.inr e.zb, Sum.inr e.name, Sum.inl e.date]) (zH (zH (z8 lat) [Sum.inl e.kind, Sum.inr e.zb, Sum.inr e.name, Sum.inl e.date] .undef) [Sum.inl e.kind, Sum.inr e.zb, Sum.inr e.name, Sum.inl e.date] (.int .i64 e.id)), .arr (lat.length + 1) 9 (appG lat.length (evG lat) (zg (zf 9 [.int .u8 e.kind, .int .i64 e.id, .int .i64 e.entry, .int .i64 e.target, .int .i64 e.date, .str e.zb, .str e.name, .str e.value, .bool e.first]) 0)), .box [.int .u8 e.kind, .int .i64 e.id, .int .i64 e.entry, .int .i64 e.target, .int .i64 e.date, .str e.zb, .str e.name, .str e.value, .bool e.first], .box [.int .u8 e.kind, .int .i64 e.id, .int .i64 e.entry, .int .i64 e.target, .int .i64 e.date, .str e.zb, .str e.name, .str e.value, .bool e.first], .box [.int .u8 e.kind, .int .i64 e.id, .int .i64 e.entry, .int .i64 e.target, .int .i64 e.date, .str e.zb, .str e.name, .str e.value, .bool e.first], .box [.int .u8 e.kind, .str e.zb, .str e.name, .int .i64 e.date], .box [.int .u8 e.kind, .int .i64 e.id, .int .i64 e.entry, .int .i64 e.target, .int .i64 e.date, .str e.zb, .str e.name, .str e.value, .bool e.first], .box [.int .u8 e.kind, .str e.zb, .str e.name, .int .i64 e.date], .arr 1 9 (zf 9 [.int .u8 e.kind, .int .i64 e.id, .int .i64 e.entry, .int .i64 e.target, .int .i64 e.date, .str e.zb, .str e.name, .str e.value, .bool e.first]), .arr 1 9 (zf 9 [.int .u8 e.kind, .int .i64 e.id, .int .i64 e.entry, .int .i64 e.target, .int .i64 e.date, .str e.zb, .str e.name, .str e.value, .bool e.first])])))))))))))))))) (by kernel_rfl) ?_
 simp only [Tree.holds, zd]
 have fin : ∀ (r : Int) (h : Heap) (b1 b2 b3 b4 : Blk) (rest : Heap), h = b1 :: b2 :: b3 :: b4 :: rest → r = SS.errA ⟨evs, lat⟩ e → eqH (expH (b1 :: b2 :: b3 :: b4 :: rest) [0, 1, 2, 3]) (HSt (SS.add ⟨evs, lat⟩ e)) → RetR addC 4 Q [.int .i64 r] h := by
  rintro r h b1 b2 b3 b4 rest rfl rfl he
  exact RetR.keep [0, 1, 2, 3] rfl (by simp) (by show ∀ j, j < 4 → _; decide) rfl hq (by simp [resV, exp2, exp1, exp0, ren0, eqA2, eqL1]) he rfl
 have bad : ∀ (r : Int) (h : Heap) (rest : Heap), h = HSt ⟨evs, lat⟩ ++ rest → r ≠ 0 → SS.errA ⟨evs, lat⟩ e = r → RetR addC 4 Q [.int .i64 r] h := by
  intro r h rest hh hr0 hr
  refine fin _ _ _ _ _ _ _ hh hr.symm ?_
  have : SS.add ⟨evs, lat⟩ e = ⟨evs, lat⟩ := by unfold SS.add; rw [if_pos (by rw [hr]; exact hr0)]
  rw [this]
  simp [expH, expB, exp1, exp0, ren0, zq, HSt, za]
 clear hq
 simp only [inR, lo, hi]
 refine ⟨e, ⟨by simp [Ev.av], hs⟩, ⟨_, rfl⟩, ?_⟩
 rintro _ rfl
 refine ⟨fun _ => by omega, fun _ => ⟨fun h => ?_, fun h => ?_⟩⟩
 ·refine bad _ _ _ rfl (by decide) ?_
  unfold SS.errA
  rw [if_pos]
  cases hv : e.valid with
  | false => exact .inl rfl
  | true =>
   rw [hv] at h
   right
   simpa using h
 have h2 : ¬ (e.valid = false ∨ e.id ≠ evs.length + 1) := by
  cases hv : e.valid with
  | false => rw [hv] at h; simp at h
  | true =>
   rw [hv] at h
   simpa using h
 clear h
 have hv : e.valid = true := by
  cases hv : e.valid
  ·exact absurd (.inl hv) h2
  ·rfl
 have hid : e.id = evs.length + 1 := Decidable.byContradiction fun g => h2 (.inr g)
 refine ⟨fun g => by have := of_decide_eq_true g; omega, fun _ => ⟨fun g => by have := of_decide_eq_true g; omega, fun _ => ⟨fun h => ?_, fun h => ?_⟩⟩⟩
 ·refine bad _ _ _ rfl (by decide) ?_
  unfold SS.errA
  rw [if_neg h2, if_pos]
  rw [vU, Bool.and_eq_true, decide_eq_true_eq, decide_eq_true_eq] at h
  rw [show 0 + ((evs.length : Int) - 1).toNat = evs.length - 1 by omega] at h
  exact ⟨by simp only; omega, h.2⟩
 have h21 : ¬ (0 < evs.length ∧ e.entry < (evs.getD (evs.length - 1) Ev.nil).entry) := by
  rw [vU, Bool.and_eq_false_iff, decide_eq_false_iff_not, decide_eq_false_iff_not] at h
  rw [show 0 + ((evs.length : Int) - 1).toNat = evs.length - 1 by omega] at h
  rintro ⟨g1, g2⟩
  rcases h with h | h
  ·omega
  ·exact h g2
 clear h
 refine ⟨fun h => ?_, fun h => ?_⟩
 ·refine bad _ _ _ rfl (by decide) ?_
  unfold SS.errA
  rw [if_neg h2, if_neg h21, if_pos]
  have := of_decide_eq_true h
  simp only; omega
 have h22 : ¬ 1000 ≤ evs.length := by have := of_decide_eq_false h; omega
 clear h
 have hlen := ho.len
 simp only at hlen
 refine ⟨fun ht => ?_, fun ht => ?_⟩
 ·have ht : 0 < e.target := of_decide_eq_true ht
  have hA : SS.errA ⟨evs, lat⟩ e = SS.errC ⟨evs, lat⟩ e := by unfold SS.errA; rw [if_neg h2, if_neg h21, if_neg h22, if_pos ht]
  obtain ⟨c1, c2, c3⟩ := Zh ho ht
  refine ⟨(⟨evs, lat⟩, e), ⟨by simp [Ev.av], by simp [za], trivial, ho, by simp only; omega, ht⟩, ⟨_, rfl⟩, ?_⟩
  rintro _ rfl
  refine ⟨fun h => ?_, fun h => ?_⟩
  ·have h : SS.errC ⟨evs, lat⟩ e ≠ 0 := by simpa using h
   have hc : SS.cor ⟨evs, lat⟩ e = ⟨evs, lat⟩ := by unfold SS.cor; rw [if_neg h]
   refine bad _ _ _ (by simp only [hc]; rfl) h hA
  ·have h : SS.errC ⟨evs, lat⟩ e = 0 := by simpa using h
   dsimp only
   have had : SS.add ⟨evs, lat⟩ e = ⟨(SS.cor ⟨evs, lat⟩ e).evs ++ [e], (SS.cor ⟨evs, lat⟩ e).lat ++ [Ev.nil]⟩ := by
    unfold SS.add; rw [if_neg (by rw [hA, h]; decide), if_pos ht, c3]
   rw [had] at fin
   simp only at c2 c3
   have e1 : (SS.cor ⟨evs, lat⟩ e).evs.length = evs.length := by rw [c3]
   refine vV ?_ ?_
   ·refine vV ?_ ?_ <;> refine ⟨⟨trivial, Nat.le_refl _, by omega⟩, fun _ => ⟨⟨trivial, trivial⟩, fun _ => ⟨⟨trivial, Nat.le_refl _, by omega⟩, fun _ => fin _ _ _ _ _ _ _ rfl (by rw [hA, h]) ?_⟩⟩⟩ <;>
     exact ⟨by simp [expB, exp1, exp0, ren0, zq], ⟨by simp, rfl, jZ (x := e) (za _ _ _)⟩, ⟨⟨rfl, .inl rfl⟩, rfl, fun k => (uf k).1, fun k hk => (uf k).2 (by rw [← (uf k).1]; exact hk)⟩, ⟨by simp, rfl, jZ (x := Ev.nil) (za _ _ _)⟩, trivial⟩
   ·refine ⟨⟨trivial, Nat.le_refl _, by omega⟩, fun _ => ⟨⟨trivial, trivial⟩, fun _ => ⟨⟨trivial, Nat.le_refl _, by omega⟩, fun _ => fin _ _ _ _ _ _ _ rfl (by rw [hA, h]) ?_⟩⟩⟩
    exact ⟨by simp [expB, exp1, exp0, ren0, zq], ⟨by simp, rfl, jZ (x := e) (za _ _ _)⟩, ⟨⟨rfl, .inl rfl⟩, rfl, fun k => (uf k).1, fun k hk => (uf k).2 (by rw [← (uf k).1]; exact hk)⟩, ⟨by simp, rfl, jZ (x := Ev.nil) (za _ _ _)⟩, trivial⟩
 ·have ht : ¬ 0 < e.target := of_decide_eq_false ht
  refine ⟨fun hk => ⟨fun _ => ?_, fun g => by have := of_decide_eq_false g; omega⟩, fun hk => ⟨fun g => (by cases g), fun _ => ⟨⟨0, trivial⟩, fun st _ => ⟨trivial, fun _ => ?_⟩⟩⟩⟩
  ·refine bad _ _ _ rfl (by decide) ?_
   unfold SS.errA
   rw [if_neg h2, if_neg h21, if_neg h22, if_neg ht, if_pos]
   exact hk
  ·have hA : SS.errA ⟨evs, lat⟩ e = 0 := by
    unfold SS.errA
    rw [if_neg h2, if_neg h21, if_neg h22, if_neg ht, if_neg]
    simp only [Ev.key]
    rw [hk]; decide
   have had : SS.add ⟨evs, lat⟩ e = ⟨evs ++ [e], lat ++ [e]⟩ := by unfold SS.add; rw [if_neg (by rw [hA]; decide), if_neg ht]
   rw [had] at fin
   have hk0 : e.kind ≠ 0 := by
    intro g
    unfold Ev.valid at hv
    rw [if_neg (by omega), if_neg (by omega)] at hv
    simp only [Bool.and_eq_true, inB, decide_eq_true_eq] at hv
    omega
   have hmap : eqB (.map true [.inl .u8, .inr false, .inr false, .inl .i64] (jl (zt lat) e.key) (zH (zH (z8 lat) e.key .undef) e.key (.int .i64 e.id))) (.map true [.inl .u8, .inr false, .inr false, .inl .i64] (zt (lat ++ [e])) (z8 (lat ++ [e]))) := by
    refine ⟨⟨rfl, .inl rfl⟩, rfl, fun k => zbm (s := ⟨evs, lat⟩) hk0 k, fun k hk' => ?_⟩
    rw [zbm (s := ⟨evs, lat⟩) hk0 k] at hk'
    have := Yw (s := ⟨evs, lat⟩) hk0 (by simp only [hlen]; omega) hk k hk'
    rw [← this]
    unfold zH
    split <;> rfl
   refine vV ?_ ?_
   ·refine vV ?_ ?_ <;> refine ⟨⟨trivial, Nat.le_refl _, by omega⟩, fun _ => ⟨⟨trivial, trivial⟩, fun _ => ⟨⟨trivial, Nat.le_refl _, by omega⟩, fun _ => fin _ _ _ _ _ _ _ rfl hA.symm ?_⟩⟩⟩ <;>
     exact ⟨by simp [expB, exp1, exp0, ren0, zq], ⟨by simp, rfl, jZ (x := e) (za _ _ _)⟩, hmap, ⟨by simp, rfl, jZ (x := e) (za _ _ _)⟩, trivial⟩
   ·refine ⟨⟨trivial, Nat.le_refl _, by omega⟩, fun _ => ⟨⟨trivial, trivial⟩, fun _ => ⟨⟨trivial, Nat.le_refl _, by omega⟩, fun _ => fin _ _ _ _ _ _ _ rfl hA.symm ?_⟩⟩⟩
    exact ⟨by simp [expB, exp1, exp0, ren0, zq], ⟨by simp, rfl, jZ (x := e) (za _ _ _)⟩, hmap, ⟨by simp, rfl, jZ (x := e) (za _ _ _)⟩, trivial⟩
end Go.Proofs.Tryz
end

/- A nil slice in a box, taken for one of one's own of no elements. -/
section
namespace Go.Sx
variable [Stat]
section
variable {O : Nat → Prop} {pin : Nat} {w0 : World} {σ0 : List SE} {w : World} {σ : List SE} {P : Program} {st : St} {a : Act} {fn : Func}
theorem QJ {own : Nat → Prop} {i sz : Nat} (he : σ[i]? = some ⟨none, 0⟩) : ∀ (cs : List AV) (j : Nat) (vs : List Value), cs[j]? = some .nils → RepL own w cs σ vs → RepL own w (cs.set j (.osl i sz 0 0)) σ vs
 | [], j, _, h, _ => by simp at h
 | b :: l, 0, vs, h, hr => by
  simp only [List.getElem?_cons_zero, Option.some.injEq] at h
  subst h
  simp only [RepL] at hr
  obtain ⟨v, r, rfl, h1, h2⟩ := hr
  simp only [Rep] at h1
  simp only [List.set_cons_zero, RepL]
  refine ⟨v, r, rfl, ?_, h2⟩
  rw [h1]
  simp only [Rep]
  exact ⟨⟨none, 0⟩, he, by simp, none, 0, rfl, Nat.le_refl _, .inl rfl⟩
 | b :: l, j + 1, vs, h, hr => by
  simp only [List.getElem?_cons_succ] at h
  simp only [RepL] at hr
  obtain ⟨v, r, rfl, h1, h2⟩ := hr
  simp only [List.set_cons_succ, RepL]
  exact ⟨v, r, rfl, h1, QJ he l j r h h2⟩
def X8 (st : St) (i j sz : Nat) (g : Nat → Nat → AV) (cs : List AV) : St := ⟨st.tmps, st.heap.set i (.box (cs.set j (.osl st.heap.length sz 0 0))) ++ [.arr 0 sz g]⟩
theorem Yu (hm : Mod O pin w0 σ0 w σ st a) {i j sz : Nat} {g : Nat → Nat → AV} {cs : List AV} (hb : st.heap[i]? = some (.box cs)) (hj : cs[j]? = some .nils) (hno : st.tmps.all zA = true) : Mod O pin w0 σ0 w (σ ++ [⟨none, 0⟩]) (X8 st i j sz g cs) a := by
 obtain ⟨k1, k2, k3⟩ := Wf hm.good hm.hp sz g
 have hx := ext_nil (O := O) w σ 0
 have hlt := (List.getElem?_eq_some_iff.1 hb).1
 have hp : HRep (Own O (σ ++ [⟨none, 0⟩])) w (σ ++ [⟨none, 0⟩]) ((st.heap ++ [Blk.arr 0 sz g]).set i (Blk.box (cs.set j (.osl st.heap.length sz 0 0)))) := by
  refine JX k1 fun e he => ?_
  have h1 := k1.blk i e (.box cs) he (by rw [List.getElem?_append_left hlt]; exact hb)
  simp only [BRep] at h1 ⊢
  obtain ⟨ad, vs, el, q1, q2, q3, q4⟩ := h1
  exact ⟨ad, vs, el, q1, q2, q3, QJ (by rw [← hm.hp.len]; simp) cs j vs hj q4⟩
 rw [List.set_append_left _ _ hlt] at hp
 refine ⟨k2, hp, by simp [X8, hm.size], fun u => ?_, hm.df.ext hx, hm.since.trans ⟨hx, fun _ _ _ => rfl, wx.of k3 (by simp)⟩, hm.lim⟩
 have hu := hm.tm u
 show TRep _ _ _ _ (st.tmps.getD u .undef) _
 have hn : zA (st.tmps.getD u .undef) = true := by
  by_cases hlt : u < st.tmps.length
  ·simp only [List.getD, List.getElem?_eq_getElem hlt, Option.getD_some]
   exact List.all_eq_true.1 hno _ (List.getElem_mem hlt)
  ·simp only [List.getD]
   rw [List.getElem?_eq_none (by omega)]; rfl
 generalize st.tmps.getD u .undef = x at hu hn
 cases x with
 | opt _ _ _ => simp [zA] at hn
 | _ => simp only [TRep] at hu ⊢; exact zS hx k3 _ _ (qT _) hu
theorem zc.zew {M : Option Nat} {Hs : Nat → KV → Heap → Prop} {R : List AV → Heap → Prop} {k : List Item} {kv : KV} {h : Heap} (i j sz : Nat) (g : Nat → Nat → AV) {cs : List AV} (hb : h[i]? = some (.box cs)) (hj : cs[j]? = some .nils) (hno : (pk fn.ntmps kv).all zA = true)
  (H : qi M P fn O pin w0 σ0 Hs R k (mk fn.ntmps kv (h.set i (.box (cs.set j (.osl h.length sz 0 0))) ++ [.arr 0 sz g]))) : qi M P fn O pin w0 σ0 Hs R k (mk fn.ntmps kv h) :=
 fun w σ a hm => H w _ a (Yu hm hb hj hno)
end
end Go.Sx
end

/- A contract with two outcomes. -/
section
namespace Go.Sx
variable [Stat]
variable {P : Program} {fn : Func}
def ctrD {X R : Type} (fresh : Bool) (inp : X → List AV) (pre : X → Prop) (yes : X → Bool) (post : X → R → Prop) (out : X → R → AV × Heap) (no : X → AV × Heap) : Ctr where
 fresh := fresh
 spec args hc := match hc with
  | [] => .ex (fun x => eqL args (inp x) ∧ pre x) fun x => .ite (yes x) (.all (post x) fun r => .leaf (out x r)) (.leaf (no x))
  | _ => .fail
theorem zci {X R : Type} {fresh : Bool} {inp : X → List AV} {pre : X → Prop} {yes : X → Bool} {post : X → R → Prop} {out : X → R → AV × Heap} {no : X → AV × Heap} {g : Nat} {c : Code} (hf : P.funcs[g]? = some fn) (hb : fn.body = some c) (hn : (fn.name == "runtime.NumGoroutine") = false)
  (H : ∀ x, pre x → ∀ (O : Nat → Prop) (w0 : World) (Q : AV × Heap → Prop), (yes x = true → ∀ r, post x r → Q (out x r)) → (yes x = false → Q (no x)) →
   zc P fn O 0 w0 [] (fun _ _ _ => False) (RetR (ctrD fresh inp pre yes post out no) 0 Q) [.code c] (entry fn (inp x))) : ze P g (ctrD fresh inp pre yes post out no) := by
 intro args hc Q hq _
 simp only [ctrD] at hq
 split at hq
 ·obtain ⟨x, ⟨h1, h4⟩, h5, h6⟩ := hq
  refine qq.le h1 (fn_k hf hb hn (fun _ => rfl) fun O w0 σ0 hl => ?_)
  have : σ0 = [] := List.length_eq_zero_iff.1 (by simpa using hl)
  subst this
  exact H x h4 O w0 Q (fun hy r hr => (h5 hy).2 r hr) h6
 ·exact hq.elim
theorem ze.frozen {X R : Type} {inp : X → List AV} {pre : X → Prop} {post : X → R → Prop} {out : X → R → AV × Heap} {out' : X → R → AV} {g : Nat} (h : ze P g (ctrP true inp pre post out))
  (hn : ∀ x r, pre x → post x r → new2 (out x r).2 [] (out x r).1) (he : ∀ x r, pre x → post x r → LeA (exp2 (out x r).2 [] (out x r).1) (out' x r)) : ze P g (ctrP true inp pre post fun x r => (out' x r, [])) := by
 intro args hc Q hq hfr
 have hc0 := hfr rfl
 subst hc0
 simp only [ctrP] at hq
 obtain ⟨x, ⟨h1, h2⟩, h3, h4⟩ := hq
 have k := h args [] (fun p => ∃ r, post x r ∧ p = out x r) (by simp only [ctrP]; exact ⟨x, ⟨h1, h2⟩, h3, fun r hr => ⟨r, hr, rfl⟩⟩) (fun _ => rfl)
 intro O w σ vals hg hh hr
 have hσ : σ = [] := List.length_eq_zero_iff.1 (by simpa using hh.len)
 subst hσ
 refine yo.mono ?_ (k O w [] vals hg hh hr)
 rintro v w' ⟨a, hs, σ', ⟨r, hr, e⟩, g1, g2, g3, g4, g5, g6⟩
 have ea : a = (out x r).1 := by rw [← e]
 have eh : hs = (out x r).2 := by rw [← e]
 have sub : ∀ b, Own O σ' b → (Own O σ' b ∨ ((ctrP true inp pre post out).fresh = true ∧ b < w.heap.size)) := fun b hb => .inl hb
 have hnew : ∀ b, Mine σ' b → w.heap.size ≤ b := fun b hb => by
  rcases g6.grow b hb with hx | hx
  ·obtain ⟨_, he, _⟩ := hx; simp at he
  ·exact hx
 have XX : Exp O w' σ' hs [] [] (fun b => Own O [] b ∨ ((ctrP true inp pre post fun x r => (out' x r, ([] : Heap))).fresh = true ∧ b < w.heap.size)) :=
  ⟨g3, ⟨g2.len, g2.inj, g2.lt, fun i e b he hb => ZQ sub (g2.blk i e b he hb)⟩, rfl, by simp, fun j => by simp, fun b hb => by
   rcases hb with hb | ⟨_, hb⟩
   ·exact .inl hb
   ·exact .inr fun hm => by have := hnew b hm; omega⟩
 refine ⟨out' x r, [], [], h4 r hr, he x r h2 hr _ _ _ _ ?_, ⟨rfl, fun i j e f a b he => by simp at he, fun i e a he => by simp at he, fun i e b he => by simp at he⟩, ⟨g3.old, fun i e ad he => by simp at he, g3.stat.own fun b hb => by
  rcases hb with hb | ⟨e, he, _⟩
  ·exact .inl hb
  ·simp at he⟩, Nat.le_refl _, fun i e he => by simp at he, ⟨g6.os, g6.tape, g6.output, g6.size, fun b hb hno => g6.keep b hb hno, fun b hb => by obtain ⟨_, he, _⟩ := hb; simp at he⟩⟩
 rw [← ea, ← eh]
 exact Qi XX (.inr (by rw [ea, eh]; exact hn x r h2 hr)) (jX sub g1)
theorem zc.weak {M : Option Nat} {O : Nat → Prop} {pin : Nat} {w0 : World} {σ0 : List SE} {Hs : Nat → KV → Heap → Prop} {R : List AV → Heap → Prop} {k : List Item} {kv : KV} {h : Heap} {S : KV} {H : Heap} (hle : LeK pin fn.ntmps kv h S H)
  (hs : qi M P fn O pin w0 σ0 Hs R k (mk fn.ntmps S H)) : qi M P fn O pin w0 σ0 Hs R k (mk fn.ntmps kv h) := Safe.le hle.le hs
end Go.Sx
end

/- The store: logs replayed. -/
section
set_option maxRecDepth 100000
open Go Go.Sx Go.Proofs Go.Nov
namespace Go.Proofs.Tryz
attribute [local simp] eqKV eqA eqA0 eqH eqB eqL eqL0
noncomputable def K25 : List Go.Sx.Item := [.code (Tryz.f25.body.getD .skip)]
def repC : Ctr := ctrD false (fun l : List Ev => [evS l]) (fun l => l.length < 2 ^ 40 ∧ ∀ e ∈ l, z7 e) (fun l => (SS.play ⟨[], []⟩ l).isSome) (fun l (s : SS) => SS.play ⟨[], []⟩ l = some s) (fun _ s => (.tup [.ptr 0 0, .bool true], HSt s)) (fun _ => (.tup [.nilp, .bool false], []))
def SRe (l : List Ev) (i : Nat) : KV := [(4, .ptr 1 0), (10, evS l), (11, .int .i64 l.length), (12, .int .i64 i)]
def HRe (s : SS) : Heap := [.map true [.inl .u8, .inr false, .inr false, .inl .i64] (zt s.lat) (z8 s.lat), .box [.osl 2 9 0 s.evs.length, .omap 0, .osl 3 9 0 s.lat.length], .arr s.evs.length 9 (evG s.evs), .arr s.lat.length 9 (evG s.lat)]
noncomputable def GRe : Nat → Option Ctr := fun f => if f = 33 then some (addC) else none
theorem UC : ∀ g c, GRe g = some c → ze Tryz.prog g c := okIf zdu (zn)
theorem Kb : ze Tryz.prog 25 repC := by
 refine zci (fn := Tryz.f25) (c := Tryz.f25.body.getD .skip) rfl rfl rfl fun l hp O w0 Q hq hq2 => ?_
 obtain ⟨h1, h2⟩ := hp
 refine zc.run hmix UC [4, 10, 11, 12] 400 (T := .leaf (.loop (Prod.fst (lps K25 0)) (Prod.snd (lps K25 0)) [(4, .ptr 1 0), (10, .sl l.length 9 (evG l)), (11, .int .i64 l.length), (12, .int .i64 0)] [Blk.map true [Sum.inl .u8, Sum.inr false, Sum.inr false, Sum.inl .i64] Wu Ul, .box [.nils, .omap 0, .nils]])) (by kernel_rfl) ?_
 refine zc.zew 1 0 9 (evG []) rfl rfl (by kernel_rfl) ?_
 refine zc.zew 1 2 9 (evG []) rfl rfl (by kernel_rfl) ?_
 refine zc.loop (ι := {p : Nat × SS // p.1 ≤ l.length ∧ p.2.ok ∧ p.2.evs.length = p.1 ∧ p.2.evs.length ≤ 1000 ∧ p.2.play (l.drop p.1) = SS.play ⟨[], []⟩ l}) (fun p => SRe l p.1.1) (fun p => HRe p.1.2) (fun p => l.length - p.1.1) ⟨(0, ⟨[], []⟩), Nat.zero_le _, VK, rfl, by simp, rfl⟩ 0 ?_ ?_ (by kernel_rfl)
 ·exact ⟨by simp [SRe, evS, za], by simp [HRe, za, Wu, zt], by kernel_rfl, Nat.zero_le _⟩
 ·rintro ⟨⟨i, s⟩, hil, hso, hsl, hsm, hpl⟩
  simp only at hil hso hsl hsm hpl
  refine zc.run hmix UC [4, 10, 11, 12] 400 (T := .ite (decide ((↑i : Int) < l.length)) (.side ((0 : Int) ≤ i ∧ (↑i : Int) < l.length) (.ex (fun (x : SS × Ev) => eqL [AV.ptr 0 0, AV.agg [AV.int .u8 (Ev.kind (List.getD l (Int.toNat (↑i : Int)) Ev.nil)), AV.int .i64 (Ev.id (List.getD l (Int.toNat (↑i : Int)) Ev.nil)), AV.int .i64 (Ev.entry (List.getD l (Int.toNat (↑i : Int)) Ev.nil)), AV.int .i64 (Ev.target (List.getD l (Int.toNat (↑i : Int)) Ev.nil)), AV.int .i64 (Ev.date (List.getD l (Int.toNat (↑i : Int)) Ev.nil)), AV.str (Ev.zb (List.getD l (Int.toNat (↑i : Int)) Ev.nil)), AV.str (Ev.name (List.getD l (Int.toNat (↑i : Int)) Ev.nil)), AV.str (Ev.value (List.getD l (Int.toNat (↑i : Int)) Ev.nil)), AV.bool (Ev.first (List.getD l (Int.toNat (↑i : Int)) Ev.nil))]] [AV.ptr 0 0, AV.agg [AV.int .u8 x.2.kind, AV.int .i64 x.2.id, AV.int .i64 x.2.entry, AV.int .i64 x.2.target, AV.int .i64 x.2.date, AV.str x.2.zb, AV.str x.2.name, AV.str x.2.value, AV.bool x.2.first]] ∧ eqH [.box [AV.osl 1 9 0 (List.length (SS.evs s)), AV.omap 2, AV.osl 3 9 0 (List.length (SS.lat s))], .arr (List.length (SS.evs s)) 9 (evG (SS.evs s)), Blk.map true [Sum.inl .u8, Sum.inr false, Sum.inr false, Sum.inl .i64] (zt (SS.lat s)) (z8 (SS.lat s)), .arr (List.length (SS.lat s)) 9 (evG (SS.lat s))] [.box [AV.osl 1 9 0 (List.length (SS.evs x.1)), AV.omap 2, AV.osl 3 9 0 (List.length (SS.lat x.1))], .arr (List.length (SS.evs x.1)) 9 (evG (SS.evs x.1)), Blk.map true [Sum.inl .u8, Sum.inr false, Sum.inr false, Sum.inl .i64] (zt (SS.lat x.1)) (z8 (SS.lat x.1)), .arr (List.length (SS.lat x.1)) 9 (evG (SS.lat x.1))] ∧ 4 = 4 ∧ SS.ok x.1 ∧ List.length (SS.evs x.1) ≤ 1000 ∧ z7 x.2) fun n => .all (fun (r : Int) => r = SS.errA n.1 n.2) fun n_1 => .ite (!decide (n_1 = 0)) (.leaf (.ret [.nilp, .bool false] [Blk.map true [Sum.inl .u8, Sum.inr false, Sum.inr false, Sum.inl .i64] (zt (SS.lat (SS.add n.1 n.2))) (z8 (SS.lat (SS.add n.1 n.2))), .box [.osl 2 9 0 (List.length (SS.evs (SS.add n.1 n.2))), .omap 0, .osl 3 9 0 (List.length (SS.lat (SS.add n.1 n.2)))], .arr (List.length (SS.evs (SS.add n.1 n.2))) 9 (evG (SS.evs (SS.add n.1 n.2))), .arr (List.length (SS.lat (SS.add n.1 n.2))) 9 (evG (SS.lat (SS.add n.1 n.2))), .box [.int .u8 (Ev.kind (List.getD l (Int.toNat (↑i : Int)) Ev.nil)), .int .i64 (Ev.id (List.getD l (Int.toNat (↑i : Int)) Ev.nil)), .int .i64 (Ev.entry (List.getD l (Int.toNat (↑i : Int)) Ev.nil)), .int .i64 (Ev.target (List.getD l (Int.toNat (↑i : Int)) Ev.nil)), .int .i64 (Ev.date (List.getD l (Int.toNat (↑i : Int)) Ev.nil)), .str (Ev.zb (List.getD l (Int.toNat (↑i : Int)) Ev.nil)), .str (Ev.name (List.getD l (Int.toNat (↑i : Int)) Ev.nil)), .str (Ev.value (List.getD l (Int.toNat (↑i : Int)) Ev.nil)), .bool (Ev.first (List.getD l (Int.toNat (↑i : Int)) Ev.nil))]])) (.side (inR .i64 ((↑i : Int) + (1 : Int))) (.leaf (.back 0 [(4, .ptr 1 0), (10, .sl l.length 9 (evG l)), (11, .int .i64 l.length), (12, .int .i64 ((↑i : Int) + (1 : Int)))] [Blk.map true [Sum.inl .u8, Sum.inr false, Sum.inr false, Sum.inl .i64] (zt (SS.lat (SS.add n.1 n.2))) (z8 (SS.lat (SS.add n.1 n.2))), .box [.osl 2 9 0 (List.length (SS.evs (SS.add n.1 n.2))), .omap 0, .osl 3 9 0 (List.length (SS.lat (SS.add n.1 n.2)))], .arr (List.length (SS.evs (SS.add n.1 n.2))) 9 (evG (SS.evs (SS.add n.1 n.2))), .arr (List.length (SS.lat (SS.add n.1 n.2))) 9 (evG (SS.lat (SS.add n.1 n.2))), .box [.int .u8 (Ev.kind (List.getD l (Int.toNat (↑i : Int)) Ev.nil)), .int .i64 (Ev.id (List.getD l (Int.toNat (↑i : Int)) Ev.nil)), .int .i64 (Ev.entry (List.getD l (Int.toNat (↑i : Int)) Ev.nil)), .int .i64 (Ev.target (List.getD l (Int.toNat (↑i : Int)) Ev.nil)), .int .i64 (Ev.date (List.getD l (Int.toNat (↑i : Int)) Ev.nil)), .str (Ev.zb (List.getD l (Int.toNat (↑i : Int)) Ev.nil)), .str (Ev.name (List.getD l (Int.toNat (↑i : Int)) Ev.nil)), .str (Ev.value (List.getD l (Int.toNat (↑i : Int)) Ev.nil)), .bool (Ev.first (List.getD l (Int.toNat (↑i : Int)) Ev.nil))]]))))) (.leaf (.ret [.ptr 1 0, .bool true] [Blk.map true [Sum.inl .u8, Sum.inr false, Sum.inr false, Sum.inl .i64] (zt (SS.lat s)) (z8 (SS.lat s)), .box [.osl 2 9 0 (List.length (SS.evs s)), .omap 0, .osl 3 9 0 (List.length (SS.lat s))], .arr (List.length (SS.evs s)) 9 (evG (SS.evs s)), .arr (List.length (SS.lat s)) 9 (evG (SS.lat s))]))) (by kernel_rfl) ?_
  simp only [Tree.holds, zd]
  simp only [Int.toNat_natCast, inR, lo, hi]
  refine ⟨fun h => ⟨by have := of_decide_eq_true h; omega, fun _ => ?_⟩, fun h => ?_⟩
  ·have hlt : i < l.length := by have := of_decide_eq_true h; omega
   rw [Yb hlt] at hpl
   have hsm1 := jU h2 i
   generalize l.getD i Ev.nil = e at hpl hsm1 ⊢
   refine ⟨(s, e), ⟨by simp [Ev.av], by simp [za], trivial, hso, hsm, hsm1⟩, ⟨_, rfl⟩, ?_⟩
   rintro _ rfl
   refine ⟨fun g => ?_, fun g => ⟨by omega, fun _ => ?_⟩⟩
   ·have g : s.errA e ≠ 0 := by simpa using g
    rw [if_neg g] at hpl
    rw [← hpl] at hq2
    exact RetR.scal (hq2 rfl) rfl (by simp [resV])
   ·have g : s.errA e = 0 := by simpa using g
    rw [if_pos g] at hpl
    obtain ⟨a1, a2⟩ := J8 g
    rw [if_pos trivial]
    refine ⟨⟨(i + 1, s.add e), hlt, V7 hso e, by rw [a1]; simp; omega, by rw [a1]; simp; omega, hpl⟩, by show l.length - (i + 1) < l.length - i; omega, ?_⟩
    exact ⟨by simp [SRe, evS, za], by simp [HRe, za], by kernel_rfl, Nat.zero_le _⟩
  ·have hge : i = l.length := by have := of_decide_eq_false h; omega
   subst hge
   rw [List.drop_length] at hpl
   rw [← hpl] at hq
   refine RetR.outs [1, 2, 0, 3] rfl rfl (hq rfl _ rfl) (fun h => by cases h) (by simp [resV, exp2, exp1, exp0, ren0, zq, eqA2, eqL1]) ?_ rfl
   simp [expH, expB, exp1, exp0, ren0, zq, HSt, za]
end Go.Proofs.Tryz
end

/- The reference's log: what it accepts. -/
section
namespace Go.Nov
open Go.Sx
def Ev.fact (e : Ev) : Bool := decide (e.kind = 1) || decide (e.kind = 2)
def zY (l : List Ev) (id : Int) : Bool := l.any fun x => decide (x.kind = 5) && decide (x.target = id)
def yl (a b : Ev) : Bool := decide (a.kind = b.kind) && decide (a.zb = b.zb) && decide (a.name = b.name) && decide (a.date = b.date)
def wJ (l : List Ev) (e : Ev) (n : Nat) : Bool := (List.range n).any fun i => yl (l.getD i Ev.nil) e && !zY l (i + 1)
def accR (l : List Ev) (e : Ev) : Int :=
 if e.valid = false ∨ e.id ≠ l.length + 1 then 2
 else if 0 < l.length ∧ e.entry < (l.getD (l.length - 1) Ev.nil).entry then 21
 else if 1000 ≤ l.length then 22
 else if e.fact = false then
  if (l.length : Int) < e.target ∨ (l.getD (e.target.toNat - 1) Ev.nil).fact = false ∨ zY l e.target = true then 6
  else if e.kind = 3 ∧ (l.getD (e.target.toNat - 1) Ev.nil).kind = 2 ∨ e.kind = 4 ∧ (l.getD (e.target.toNat - 1) Ev.nil).kind = 1 then 32 else 0
 else if wJ l e l.length then 24 else 0
def jb (l : List Ev) : Bool := (List.range l.length).all fun i => decide (accR (l.take i) (l.getD i Ev.nil) = 0)
theorem Yc {α : Type} {l : List α} {z : α} {p : α → Bool} : (List.range l.length).any (fun i => p (l.getD i z)) = l.any p := by
 rw [Bool.eq_iff_iff, List.any_eq_true, List.any_eq_true]
 constructor
 ·rintro ⟨i, hi, hp⟩
  have hi := List.mem_range.1 hi
  rw [zK hi] at hp
  exact ⟨_, List.getElem_mem hi, hp⟩
 ·rintro ⟨x, hx, hp⟩
  obtain ⟨i, hi, rfl⟩ := List.mem_iff_getElem.1 hx
  exact ⟨i, List.mem_range.2 hi, by rw [zK hi]; exact hp⟩
end Go.Nov
namespace Go.Nov
theorem Qm {e : Ev} (hv : e.valid = true) (hf : e.fact = false) : 1 ≤ e.target := by
 have hf : ¬ e.kind = 1 ∧ ¬ e.kind = 2 := by simpa [Ev.fact] using hf
 unfold Ev.valid at hv
 rw [if_neg hf.1, if_neg hf.2] at hv
 simp only [Bool.and_eq_true, inB, decide_eq_true_eq] at hv
 omega
end Go.Nov
namespace Go.Nov
theorem zf6 {a b : List Ev} (hl : a.length = b.length) (h : ∀ j, j < a.length → a.getD j Ev.nil = b.getD j Ev.nil) : a = b := by
 apply List.ext_getElem hl
 intro i h1 h2
 have := h i h1
 rwa [zK h1, zK h2] at this
end Go.Nov
end

/- The store: Check, Append. -/
section
set_option maxRecDepth 100000
open Go Go.Sx Go.Proofs Go.Nov
namespace Go.Proofs.Tryz
attribute [local simp] eqKV eqA eqA0 eqH eqB eqL eqL0
def evP (l : List Ev) : Prop := l.length < 2 ^ 40 ∧ ∀ e ∈ l, z7 e
def yT : Ctr := ctrP true (fun l : List Ev => [.agg [evS l]]) evP (fun l r => r = if (SS.play ⟨[], []⟩ l).isSome then 0 else 8) (fun _ (r : Int) => (.int .i64 r, []))
noncomputable def GCl : Nat → Option Ctr := fun f => if f = 25 then some (repC) else none
theorem zg4 : ∀ g c, GCl g = some c → ze Tryz.prog g c := okIf Kb (zn)
theorem u5 : ze Tryz.prog 22 yT := by
 refine zh (fn := Tryz.f22) (c := Tryz.f22.body.getD .skip) rfl rfl rfl fun l hp O w0 Q hq => ?_
 replace hq := hq _ rfl
 refine zc.run hmix zg4 [] 400 (T := .ex (fun (x : List Ev) => eqL [AV.sl l.length 9 (evG l)] [AV.sl x.length 9 (evG x)] ∧ x.length < 1099511627776 ∧ ∀ (e : Ev), e ∈ x → z7 e) fun n => .ite (Option.isSome (SS.play { evs := [], lat := [] } n)) (.all (fun (s : SS) => SS.play { evs := [], lat := [] } n = some s) fun n => .ite false (.leaf (.ret [.int .i64 8] [.box [.sl l.length 9 (evG l)], .box [.osl 2 9 0 (List.length (SS.evs n)), .omap 3, .osl 4 9 0 (List.length (SS.lat n))], .arr (List.length (SS.evs n)) 9 (evG (SS.evs n)), Blk.map true [Sum.inl .u8, Sum.inr false, Sum.inr false, Sum.inl .i64] (zt (SS.lat n)) (z8 (SS.lat n)), .arr (List.length (SS.lat n)) 9 (evG (SS.lat n))])) (.leaf (.ret [.int .i64 0] [.box [.sl l.length 9 (evG l)], .box [.osl 2 9 0 (List.length (SS.evs n)), .omap 3, .osl 4 9 0 (List.length (SS.lat n))], .arr (List.length (SS.evs n)) 9 (evG (SS.evs n)), Blk.map true [Sum.inl .u8, Sum.inr false, Sum.inr false, Sum.inl .i64] (zt (SS.lat n)) (z8 (SS.lat n)), .arr (List.length (SS.lat n)) 9 (evG (SS.lat n))]))) (.ite true (.leaf (.ret [.int .i64 8] [.box [.sl l.length 9 (evG l)]])) (.leaf (.ret [.int .i64 0] [.box [.sl l.length 9 (evG l)]])))) (by kernel_rfl) ?_
 simp only [Tree.holds, zd]
 have fin : ∀ (z : Int) (h : Heap), z = (if (SS.play ⟨[], []⟩ l).isSome then 0 else 8) → RetR yT 0 Q [.int .i64 z] h := by
  rintro z h rfl
  exact RetR.scal hq rfl rfl
 refine ⟨l, ⟨by simp [za], hp⟩, fun h => ?_, fun h => ?_⟩
 ·obtain ⟨t, ht⟩ := Option.isSome_iff_exists.1 h
  refine ⟨⟨t, ht⟩, fun s hs => ⟨fun g => (by cases g), fun _ => fin _ _ (by rw [if_pos h])⟩⟩
 ·exact ⟨fun _ => fin _ _ (by rw [if_neg (by rw [h]; decide)]), fun g => (by cases g)⟩
end Go.Proofs.Tryz
end

/- The order of what is known. -/
section
set_option maxRecDepth 100000
open Go Go.Sx Go.Proofs Go.Nov
namespace Go.Proofs.Tryz
attribute [local simp] eqKV eqA eqA0 eqH eqB eqL eqL0
noncomputable def K68 : List Go.Sx.Item := [.code (Tryz.f68.body.getD .skip)]
def nanS : Ctr := ctrP true (fun s : List UInt8 => [.str s]) (fun _ => True) (fun s r => r = false) (fun _ (r : Bool) => (.bool r, []))
def nanI : Ctr := ctrP true (fun x : Int => [.int .i64 x]) (fun _ => True) (fun s r => r = false) (fun _ (r : Bool) => (.bool r, []))
theorem zcu : ze Tryz.prog 90 nanS := by
 refine zh (fn := Tryz.f90) (c := Tryz.f90.body.getD .skip) rfl rfl rfl fun s hs O w0 Q hq => ?_
 replace hq := hq _ rfl
 refine zc.run hmix zr [] 400 (T := .leaf (.ret [.bool !decide (s = s)] [])) (by kernel_rfl) ?_
 simp only [Tree.holds, zd]
 exact RetR.scal hq rfl (by simp [resV])
theorem zdk : ze Tryz.prog 91 nanI := by
 refine zh (fn := Tryz.f91) (c := Tryz.f91.body.getD .skip) rfl rfl rfl fun s hs O w0 Q hq => ?_
 replace hq := hq _ rfl
 refine zc.run hmix zr [] 400 (T := .leaf (.ret [.bool !decide (s = s)] [])) (by kernel_rfl) ?_
 simp only [Tree.holds, zd]
 exact RetR.scal hq rfl (by simp [resV])
def zeg : Ctr := ctrP true (fun p : List UInt8 × List UInt8 => [.str p.1, .str p.2]) (fun _ => True) (fun p r => r = cmpS p.1 p.2) (fun _ (r : Int) => (.int .i64 r, []))
def zes : Ctr := ctrP true (fun p : Int × Int => [.int .i64 p.1, .int .i64 p.2]) (fun _ => True) (fun p r => r = cmpI p.1 p.2) (fun _ (r : Int) => (.int .i64 r, []))
noncomputable def GN2 : Nat → Option Ctr := fun f => if f = 90 then some (nanS) else if f = 91 then some (nanI) else none
theorem Ug : ∀ g c, GN2 g = some c → ze Tryz.prog g c := okIf zcu (okIf zdk (zn))
theorem zcy : ze Tryz.prog 69 zeg := by
 refine zh (fn := Tryz.f69) (c := Tryz.f69.body.getD .skip) rfl rfl rfl fun p hs O w0 Q hq => ?_
 obtain ⟨s, t⟩ := p
 replace hq := hq _ rfl
 simp only at hq
 refine zc.run hmix Ug [] 400 (T := .ex (fun (x : List UInt8) => eqL [AV.str s] [AV.str x] ∧ True) fun n => .all (fun (r : Bool) => r = false) fun n => .ex (fun (x : List UInt8) => eqL [AV.str t] [AV.str x] ∧ True) fun n_1 => .all (fun (r : Bool) => r = false) fun n_2 => .ite n (.ite n_2 (.leaf (.ret [.int .i64 0] [])) (.leaf (.ret [.int .i64 (-1 : Int)] []))) (.ite n_2 (.leaf (.ret [.int .i64 1] [])) (.ite (Op.bytesLess s t) (.leaf (.ret [.int .i64 (-1 : Int)] [])) (.ite (!(Op.bytesLess s t || decide (s = t))) (.leaf (.ret [.int .i64 1] [])) (.leaf (.ret [.int .i64 0] [])))))) (by kernel_rfl) ?_
 simp only [Tree.holds, zd]
 refine ⟨s, ⟨by simp, trivial⟩, ⟨_, rfl⟩, ?_⟩
 rintro _ rfl
 refine ⟨t, ⟨by simp, trivial⟩, ⟨_, rfl⟩, ?_⟩
 rintro _ rfl
 refine ⟨fun h => (by cases h), fun _ => ⟨fun h => (by cases h), fun _ => ⟨fun h => ?_, fun h => ⟨fun h2 => ?_, fun h2 => ?_⟩⟩⟩⟩
 ·have : cmpS s t = -1 := by simp [cmpS, h]
  rw [this] at hq; exact RetR.scal hq rfl (by simp [resV])
 ·have h2 : s ≠ t := by simpa [h] using h2
  have : cmpS s t = 1 := by simp [cmpS, h, h2]
  rw [this] at hq; exact RetR.scal hq rfl (by simp [resV])
 ·have h2 : s = t := by simpa [h] using h2
  subst h2
  have : cmpS s s = 0 := by simp [cmpS, h]
  rw [this] at hq; exact RetR.scal hq rfl (by simp [resV])
theorem zct : ze Tryz.prog 70 zes := by
 refine zh (fn := Tryz.f70) (c := Tryz.f70.body.getD .skip) rfl rfl rfl fun p hs O w0 Q hq => ?_
 obtain ⟨s, t⟩ := p
 replace hq := hq _ rfl
 simp only at hq
 refine zc.run hmix Ug [] 400 (T := .ex (fun (x : Int) => eqL [AV.int .i64 s] [AV.int .i64 x] ∧ True) fun n => .all (fun (r : Bool) => r = false) fun n => .ex (fun (x : Int) => eqL [AV.int .i64 t] [AV.int .i64 x] ∧ True) fun n_1 => .all (fun (r : Bool) => r = false) fun n_2 => .ite n (.ite n_2 (.leaf (.ret [.int .i64 0] [])) (.leaf (.ret [.int .i64 (-1 : Int)] []))) (.ite n_2 (.leaf (.ret [.int .i64 1] [])) (.ite (decide (s < t)) (.leaf (.ret [.int .i64 (-1 : Int)] [])) (.ite (decide (t < s)) (.leaf (.ret [.int .i64 1] [])) (.leaf (.ret [.int .i64 0] [])))))) (by kernel_rfl) ?_
 simp only [Tree.holds, zd]
 refine ⟨s, ⟨by simp, trivial⟩, ⟨_, rfl⟩, ?_⟩
 rintro _ rfl
 refine ⟨t, ⟨by simp, trivial⟩, ⟨_, rfl⟩, ?_⟩
 rintro _ rfl
 refine ⟨fun h => (by cases h), fun _ => ⟨fun h => (by cases h), fun _ => ⟨fun h => ?_, fun h => ⟨fun h2 => ?_, fun h2 => ?_⟩⟩⟩⟩
 ·have h := of_decide_eq_true h
  have : cmpI s t = -1 := by simp [cmpI, h]
  rw [this] at hq; exact RetR.scal hq rfl (by simp [resV])
 ·have h := of_decide_eq_false h
  have h2 := of_decide_eq_true h2
  have : cmpI s t = 1 := by simp [cmpI, h, h2]
  rw [this] at hq; exact RetR.scal hq rfl (by simp [resV])
 ·have h := of_decide_eq_false h
  have h2 := of_decide_eq_false h2
  have : cmpI s t = 0 := by simp [cmpI, h, h2]
  rw [this] at hq; exact RetR.scal hq rfl (by simp [resV])
def orC : Ctr := ctrP true (fun l : List Int => [.sl l.length 1 (fun j _ => .int .i64 (l.getD j 0))]) (fun l => l.length < 2 ^ 40) (fun l r => r = orI l) (fun _ (r : Int) => (.int .i64 r, []))
def SOr (l : List Int) (i : Nat) : KV := [(3, .int .i64 0), (6, .sl l.length 1 (fun j _ => .int .i64 (l.getD j 0))), (7, .int .i64 (l.length : Int)), (8, .int .i64 (i : Int))]
theorem zgc : ze Tryz.prog 68 orC := by
 refine zh (fn := Tryz.f68) (c := Tryz.f68.body.getD .skip) rfl rfl rfl fun l hl O w0 Q hq => ?_
 replace hq := hq _ rfl
 refine zc.run hmix zr [3, 6, 7, 8] 400 (T := .leaf (.loop (Prod.fst (lps K68 0)) (Prod.snd (lps K68 0)) [(3, .int .i64 0), (6, .sl l.length 1 fun (j x : Nat) => .int .i64 (List.getD l j (0 : Int))), (7, .int .i64 l.length), (8, .int .i64 0)] [])) (by kernel_rfl) ?_
 simp only [Tree.holds, zd]
 refine zc.loop (ι := {i : Nat // i ≤ l.length ∧ orI (l.drop i) = orI l}) (fun i => SOr l i.1) (fun _ => []) (fun i => l.length - i.1) ⟨0, Nat.zero_le _, rfl⟩ 0 ?_ ?_ (by kernel_rfl)
 ·exact ⟨by simp [SOr, za], by simp, by kernel_rfl, Nat.zero_le _⟩
 ·rintro ⟨i, hil, hio⟩
  refine zc.run hmix zr [3, 6, 7, 8] 400 (T := .ite (decide ((↑i : Int) < l.length)) (.side ((0 : Int) ≤ i ∧ (↑i : Int) < l.length) (.ite (!decide (List.getD l (Int.toNat (↑i : Int)) (0 : Int) = 0)) (.leaf (.ret [.int .i64 (List.getD l (Int.toNat (↑i : Int)) (0 : Int))] [])) (.side (inR .i64 ((↑i : Int) + (1 : Int))) (.leaf (.back 0 [(3, .int .i64 0), (6, .sl l.length 1 fun (j x : Nat) => .int .i64 (List.getD l j (0 : Int))), (7, .int .i64 l.length), (8, .int .i64 ((↑i : Int) + (1 : Int)))] []))))) (.leaf (.ret [.int .i64 0] []))) (by kernel_rfl) ?_
  simp only [Tree.holds, zd, inR, lo, hi, Int.toNat_natCast]
  refine ⟨fun hlt => ?_, fun hge => ?_⟩
  ·have hlt : i < l.length := by have := of_decide_eq_true hlt; omega
   have hd : l.drop i = l.getD i 0 :: l.drop (i + 1) := by
    rw [List.drop_eq_getElem_cons hlt]; simp [List.getD, hlt]
   rw [hd] at hio
   refine ⟨by omega, fun _ => ⟨fun h => ?_, fun h => ⟨by omega, fun _ => ?_⟩⟩⟩
   ·have h : l.getD i 0 ≠ 0 := by simpa using h
    have : orI l = l.getD i 0 := by rw [← hio]; simp only [orI]; rw [if_neg h]
    rw [this] at hq; exact RetR.scal hq rfl (by simp [resV])
   ·have h : l.getD i 0 = 0 := by simpa using h
    rw [if_pos trivial]
    refine ⟨⟨i + 1, hlt, ?_⟩, by show l.length - (i + 1) < l.length - i; omega, by simp [SOr, za], by simp, by kernel_rfl, Nat.zero_le _⟩
    rw [← hio]; simp only [orI]; rw [if_pos h]
  ·have hge : i = l.length := by have := of_decide_eq_false hge; omega
   subst hge
   rw [List.drop_length] at hio
   rw [← hio] at hq; exact RetR.scal hq rfl (by simp [resV, orI])
def yr : Ctr := ctrP true (fun p : Fx × Fx => [p.1.av, p.2.av]) (fun _ => True) (fun p r => r = cmpF p.1 p.2) (fun _ (r : Int) => (.int .i64 r, []))
def yM : Ctr := ctrP true (fun p : Ch × Ch => [p.1.av, p.2.av]) (fun _ => True) (fun p r => r = cmpC p.1 p.2) (fun _ (r : Int) => (.int .i64 r, []))
noncomputable def GN3 : Nat → Option Ctr := fun f => if f = 69 then some (zeg) else if f = 70 then some (zes) else if f = 68 then some (orC) else none
theorem zaa : ∀ g c, GN3 g = some c → ze Tryz.prog g c := okIf zcy (okIf zct (okIf zgc (zn)))
theorem YW (x y : Int) : eqG 2 1 (zg (zf 1 [.int .i64 x, .int .i64 y]) 0) (fun j _ => .int .i64 ([x, y].getD j 0)) := by
 intro j o hj ho
 have ho : o = 0 := by omega
 subst ho
 rcases j with _ | _ | j
 ·rfl
 ·rfl
 ·omega
theorem YN (x y z : Int) : eqG 3 1 (zg (zf 1 [.int .i64 x, .int .i64 y, .int .i64 z]) 0) (fun j _ => .int .i64 ([x, y, z].getD j 0)) := by
 intro j o hj ho
 have ho : o = 0 := by omega
 subst ho
 rcases j with _ | _ | _ | j
 ·rfl
 ·rfl
 ·rfl
 ·omega
theorem x9 : ze Tryz.prog 39 yr := by
 refine zh (fn := Tryz.f39) (c := Tryz.f39.body.getD .skip) rfl rfl rfl fun p hs O w0 Q hq => ?_
 obtain ⟨⟨a, d, v⟩, ⟨b, e, u⟩⟩ := p
 replace hq := hq _ rfl
 simp only at hq
 refine zc.run hmix zaa [] 400 (T := .ex (fun (x : List UInt8 × List UInt8) => eqL [AV.str a, AV.str b] [AV.str x.1, AV.str x.2] ∧ True) fun n => .all (fun (r : Int) => r = cmpS n.1 n.2) fun n => .ex (fun (x : Int × Int) => eqL [AV.int .i64 d, AV.int .i64 e] [AV.int .i64 x.1, AV.int .i64 x.2] ∧ True) fun n_1 => .all (fun (r : Int) => r = cmpI n_1.1 n_1.2) fun n_2 => .ex (fun (x : List Int) => eqL [AV.sl 2 1 (zg (zf 1 [AV.int .i64 n, AV.int .i64 n_2]) 0)] [AV.sl x.length 1 fun (j x_1 : Nat) => AV.int .i64 (List.getD x j (0 : Int))] ∧ x.length < 1099511627776) fun n_3 => .all (fun (r : Int) => r = orI n_3) fun n_4 => .leaf (.ret [.int .i64 n_4] [.box [.str a, .int .i64 d, .str v], .box [.str b, .int .i64 e, .str u], .arr 2 1 (zf 1 [.int .i64 n, .int .i64 n_2])])) (by kernel_rfl) ?_
 simp only [Tree.holds, zd]
 refine ⟨(a, b), ⟨by simp, trivial⟩, ⟨_, rfl⟩, ?_⟩
 rintro _ rfl
 refine ⟨(d, e), ⟨by simp, trivial⟩, ⟨_, rfl⟩, ?_⟩
 rintro _ rfl
 refine ⟨[cmpS a b, cmpI d e], ⟨⟨⟨rfl, rfl, YW _ _⟩, trivial⟩, by simp⟩, ⟨_, rfl⟩, ?_⟩
 rintro _ rfl
 have : orI [cmpS a b, cmpI d e] = cmpF ⟨a, d, v⟩ ⟨b, e, u⟩ := by
  simp only [orI, cmpF]
  by_cases h : cmpS a b = 0
  ·simp only [h, if_true]; split <;> simp_all
  ·simp only [if_neg h]
 rw [this]
 exact RetR.scal hq rfl (by simp [resV])
theorem xQ : ze Tryz.prog 42 yM := by
 refine zh (fn := Tryz.f42) (c := Tryz.f42.body.getD .skip) rfl rfl rfl fun p hs O w0 Q hq => ?_
 obtain ⟨⟨a, d, v, f⟩, ⟨b, e, u, g⟩⟩ := p
 replace hq := hq _ rfl
 simp only at hq
 refine zc.run hmix zaa [] 400 (T := .ex (fun (x : List UInt8 × List UInt8) => eqL [AV.str a, AV.str b] [AV.str x.1, AV.str x.2] ∧ True) fun n => .all (fun (r : Int) => r = cmpS n.1 n.2) fun n => .ex (fun (x : List UInt8 × List UInt8) => eqL [AV.str d, AV.str e] [AV.str x.1, AV.str x.2] ∧ True) fun n_1 => .all (fun (r : Int) => r = cmpS n_1.1 n_1.2) fun n_2 => .ex (fun (x : Int × Int) => eqL [AV.int .i64 v, AV.int .i64 u] [AV.int .i64 x.1, AV.int .i64 x.2] ∧ True) fun n_3 => .all (fun (r : Int) => r = cmpI n_3.1 n_3.2) fun n_4 => .ex (fun (x : List Int) => eqL [AV.sl 3 1 (zg (zf 1 [AV.int .i64 n, AV.int .i64 n_2, AV.int .i64 n_4]) 0)] [AV.sl x.length 1 fun (j x_1 : Nat) => AV.int .i64 (List.getD x j (0 : Int))] ∧ x.length < 1099511627776) fun n_5 => .all (fun (r : Int) => r = orI n_5) fun n_6 => .leaf (.ret [.int .i64 n_6] [.box [.str a, .str d, .int .i64 v, .bool f], .box [.str b, .str e, .int .i64 u, .bool g], .arr 3 1 (zf 1 [.int .i64 n, .int .i64 n_2, .int .i64 n_4])])) (by kernel_rfl) ?_
 simp only [Tree.holds, zd]
 refine ⟨(a, b), ⟨by simp, trivial⟩, ⟨_, rfl⟩, ?_⟩
 rintro _ rfl
 refine ⟨(d, e), ⟨by simp, trivial⟩, ⟨_, rfl⟩, ?_⟩
 rintro _ rfl
 refine ⟨(v, u), ⟨by simp, trivial⟩, ⟨_, rfl⟩, ?_⟩
 rintro _ rfl
 refine ⟨[cmpS a b, cmpS d e, cmpI v u], ⟨⟨⟨rfl, rfl, YN _ _ _⟩, trivial⟩, by simp⟩, ⟨_, rfl⟩, ?_⟩
 rintro _ rfl
 have : orI [cmpS a b, cmpS d e, cmpI v u] = cmpC ⟨a, d, v, f⟩ ⟨b, e, u, g⟩ := by
  simp only [orI, cmpC]
  by_cases h : cmpS a b = 0
  ·simp only [h, if_true]
   by_cases h2 : cmpS d e = 0
   ·simp only [h2, if_true]; split <;> simp_all
   ·simp only [if_neg h2]
  ·simp only [if_neg h]
 rw [this]
 exact RetR.scal hq rfl (by simp [resV])
end Go.Proofs.Tryz
end

/- What is known: the checks. -/
section
set_option maxRecDepth 100000
open Go Go.Sx Go.Proofs Go.Nov
namespace Go.Proofs.Tryz
attribute [local simp] eqKV eqA eqA0 eqH eqB eqL eqL0
noncomputable def K81 : List Go.Sx.Item := [.code (Tryz.f81.body.getD .skip)]
noncomputable def K82 : List Go.Sx.Item := [.code (Tryz.f82.body.getD .skip)]
noncomputable def K59 : List Go.Sx.Item := [.code (Tryz.f59.body.getD .skip)]
noncomputable def K60 : List Go.Sx.Item := [.code (Tryz.f60.body.getD .skip)]
def qn (f : Fx) : Prop := f.name.length < 2 ^ 40 ∧ f.value.length < 2 ^ 40
def qj (c : Ch) : Prop := c.zb.length < 2 ^ 40 ∧ c.name.length < 2 ^ 40
def zej : Ctr := ctrP true (fun f : Fx => [f.av]) qn (fun f r => r = !okF f) (fun _ (r : Bool) => (.bool r, []))
def zec : Ctr := ctrP true (fun c : Ch => [c.av]) qj (fun c r => r = !okC c) (fun _ (r : Bool) => (.bool r, []))
noncomputable def GE1 : Nat → Option Ctr := fun f => if f = 35 then some (xy) else if f = 36 then some (xo) else if f = 37 then some (Zd) else none
theorem Ur : ∀ g c, GE1 g = some c → ze Tryz.prog g c := okIf JO (okIf Jp (okIf ur (zn)))
theorem zcm : ze Tryz.prog 55 zej := by
 refine zh (fn := Tryz.f55) (c := Tryz.f55.body.getD .skip) rfl rfl rfl fun f hs O w0 Q hq => ?_
 obtain ⟨a, d, v⟩ := f
 obtain ⟨h1, h2⟩ := hs
 replace hq := hq _ rfl
 simp only [okF] at hq h1 h2
 refine zc.run hmix Ur [] 400 (T := .ex (fun (x : List UInt8) => eqL [AV.str a] [AV.str x] ∧ x.length < 4611686018427387904) fun n => .all (fun (r : Bool) => r = zu n) fun n => .ex (fun (x : Int) => (!n) = false → eqL [AV.int .i64 d] [AV.int .i64 x] ∧ True) fun n_1 => .all (fun (x : Bool) => (!n) = false → x = dayB n_1) fun n_2 => .ex (fun (x : List UInt8) => (bif !n then true else !n_2) = false → eqL [AV.str v] [AV.str x] ∧ x.length < 4611686018427387904) fun n_3 => .all (fun (x : Int) => (bif !n then true else !n_2) = false → x = errR n_3) fun n_4 => .leaf (.ret [.bool (bif bif !n then true else !n_2 then true else !decide (n_4 = 0))] [.box [.str a, .int .i64 d, .str v]])) (by kernel_rfl) ?_
 simp only [Tree.holds, zd]
 refine ⟨a, ⟨by simp, by omega⟩, ⟨_, rfl⟩, ?_⟩
 rintro _ rfl
 refine ⟨d, fun _ => ⟨by simp, trivial⟩, ⟨_, fun _ => rfl⟩, ?_⟩
 intro x hx
 refine ⟨v, fun _ => ⟨by simp, by omega⟩, ⟨_, fun _ => rfl⟩, ?_⟩
 intro y hy
 refine RetR.scal hq rfl ?_
 simp only [resV]
 cases hn : zu a with
 | false => rfl
 | true =>
  rw [hx (by rw [hn]; rfl)] at hy ⊢
  cases hd : dayB d with
  | false => rfl
  | true => rw [hy (by rw [hn, hd]; rfl)]; rfl
theorem zds : ze Tryz.prog 56 zec := by
 refine zh (fn := Tryz.f56) (c := Tryz.f56.body.getD .skip) rfl rfl rfl fun f hs O w0 Q hq => ?_
 obtain ⟨a, v, d, f⟩ := f
 obtain ⟨h1, h2⟩ := hs
 replace hq := hq _ rfl
 simp only [okC] at hq h1 h2
 refine zc.run hmix Ur [] 400 (T := .ex (fun (x : List UInt8) => eqL [AV.str a] [AV.str x] ∧ x.length < 4611686018427387904) fun n => .all (fun (r : Bool) => r = zu n) fun n => .ex (fun (x : List UInt8) => (!n) = false → eqL [AV.str v] [AV.str x] ∧ x.length < 4611686018427387904) fun n_1 => .all (fun (x : Bool) => (!n) = false → x = zu n_1) fun n_2 => .ex (fun (x : Int) => (bif !n then true else !n_2) = false → eqL [AV.int .i64 d] [AV.int .i64 x] ∧ True) fun n_3 => .all (fun (x : Bool) => (bif !n then true else !n_2) = false → x = dayB n_3) fun n_4 => .leaf (.ret [.bool (bif bif !n then true else !n_2 then true else !n_4)] [.box [.str a, .str v, .int .i64 d, .bool f]])) (by kernel_rfl) ?_
 simp only [Tree.holds, zd]
 refine ⟨a, ⟨by simp, by omega⟩, ⟨_, rfl⟩, ?_⟩
 rintro _ rfl
 refine ⟨v, fun _ => ⟨by simp, by omega⟩, ⟨_, fun _ => rfl⟩, ?_⟩
 intro x hx
 refine ⟨d, fun _ => ⟨by simp, trivial⟩, ⟨_, fun _ => rfl⟩, ?_⟩
 intro y hy
 refine RetR.scal hq rfl ?_
 simp only [resV]
 cases hn : zu a with
 | false => rfl
 | true =>
  rw [hx (by rw [hn]; rfl)] at hy ⊢
  cases hd : zu v with
  | false => rfl
  | true => rw [hy (by rw [hn, hd]; rfl)]; rfl
def zem : Ctr := ctrP true (fun l : List Fx => [fxS l, .fn 55 [] []]) (fun l => l.length < 2 ^ 40 ∧ ∀ j, j < l.length → qn (l.getD j Fx.nil)) (fun l r => r = idxB (fun x => !okF x) l) (fun _ (r : Int) => (.int .i64 r, []))
def SIxF (l : List Fx) (i : Nat) : KV := [(0, fxS l), (1, .fn 55 [] []), (7, .int .i64 (l.length : Int)), (8, .int .i64 (i : Int))]
noncomputable def GE2F : Nat → Option Ctr := fun f => if f = 55 then some (zej) else none
theorem KK : ∀ g c, GE2F g = some c → ze Tryz.prog g c := okIf zcm (zn)
theorem zcf : ze Tryz.prog 81 zem := by
 refine zh (fn := Tryz.f81) (c := Tryz.f81.body.getD .skip) rfl rfl rfl fun l hl O w0 Q hq => ?_
 obtain ⟨hl, hsm⟩ := hl
 replace hq := hq _ rfl
 refine zc.run hmix KK [0, 1, 7, 8] 400 (T := .leaf (.loop (Prod.fst (lps K81 0)) (Prod.snd (lps K81 0)) [(0, .sl l.length 3 (fxG l)), (1, .fn 55 [] []), (7, .int .i64 l.length), (8, .int .i64 0)] [])) (by kernel_rfl) ?_
 simp only [Tree.holds, zd]
 refine zc.loop (ι := {i : Nat // i ≤ l.length ∧ ∀ j, j < i → (!okF (l.getD j Fx.nil)) = false}) (fun i => SIxF l i.1) (fun _ => []) (fun i => l.length - i.1) ⟨0, Nat.zero_le _, fun j hj => by omega⟩ 0 ?_ ?_ (by kernel_rfl)
 ·exact ⟨by simp [SIxF, fxS, za], by simp, by kernel_rfl, Nat.zero_le _⟩
 ·rintro ⟨i, hil, hib⟩
  refine zc.run hmix KK [0, 1, 7, 8] 400 (T := .ite (decide ((↑i : Int) < l.length)) (.side ((0 : Int) ≤ i ∧ (↑i : Int) < l.length) (.ex (fun (x : Fx) => eqL [AV.agg [AV.str (Fx.name (List.getD l (Int.toNat (↑i : Int)) Fx.nil)), AV.int .i64 (Fx.date (List.getD l (Int.toNat (↑i : Int)) Fx.nil)), AV.str (Fx.value (List.getD l (Int.toNat (↑i : Int)) Fx.nil))]] [AV.agg [AV.str x.name, AV.int .i64 x.date, AV.str x.value]] ∧ qn x) fun n => .all (fun (r : Bool) => r = !okF n) fun n => .ite n (.leaf (.ret [.int .i64 i] [])) (.side (inR .i64 ((↑i : Int) + (1 : Int))) (.leaf (.back 0 [(0, .sl l.length 3 (fxG l)), (1, .fn 55 [] []), (7, .int .i64 l.length), (8, .int .i64 ((↑i : Int) + (1 : Int)))] []))))) (.leaf (.ret [.int .i64 (-1 : Int)] []))) (by kernel_rfl) ?_
  simp only [Tree.holds, zd, inR, lo, hi, Int.toNat_natCast]
  refine ⟨fun hlt => ?_, fun hge => ?_⟩
  ·have hlt : i < l.length := by have := of_decide_eq_true hlt; omega
   refine ⟨by omega, fun _ => ⟨l.getD i Fx.nil, ⟨by simp, hsm i hlt⟩, ⟨_, rfl⟩, ?_⟩⟩
   rintro _ rfl
   refine ⟨fun h => ?_, fun h => ⟨by omega, fun _ => ?_⟩⟩
   ·rw [yz hlt h hib] at hq
    exact RetR.scal hq rfl (by simp [resV])
   ·rw [if_pos trivial]
    refine ⟨⟨i + 1, hlt, fun j hj => ?_⟩, by show l.length - (i + 1) < l.length - i; omega, by simp [SIxF, fxS, za], by simp, by kernel_rfl, Nat.zero_le _⟩
    rcases Nat.lt_or_ge j i with h1 | h1
    ·exact hib j h1
    ·have : j = i := by omega
     rw [this]; exact h
  ·have hge : i = l.length := by have := of_decide_eq_false hge; omega
   subst hge
   rw [v8 hib] at hq
   exact RetR.scal hq rfl (by simp [resV])
def ze6 : Ctr := ctrP true (fun l : List Fx => [fxS l, .fn 55 [] []]) (fun l => l.length < 2 ^ 40 ∧ ∀ j, j < l.length → qn (l.getD j Fx.nil)) (fun l r => r = l.any fun x => !okF x) (fun _ (r : Bool) => (.bool r, []))
noncomputable def GE3F : Nat → Option Ctr := fun f => if f = 81 then some (zem) else none
theorem zcl : ∀ g c, GE3F g = some c → ze Tryz.prog g c := okIf zcf (zn)
theorem zd2 : ze Tryz.prog 57 ze6 := by
 refine zh (fn := Tryz.f57) (c := Tryz.f57.body.getD .skip) rfl rfl rfl fun l hl O w0 Q hq => ?_
 replace hq := hq _ rfl
 refine zc.run hmix zcl [] 400 (T := .ex (fun (x : List Fx) => eqL [AV.sl l.length 3 (fxG l), AV.fn 55 [] []] [AV.sl x.length 3 (fxG x), AV.fn 55 [] []] ∧ x.length < 1099511627776 ∧ ∀ (j : Nat), j < x.length → qn (x.getD j Fx.nil)) fun n => .all (fun (r : Int) => r = idxB (fun (x : Fx) => !okF x) n) fun n => .leaf (.ret [.bool (decide ((0 : Int) ≤ n))] [])) (by kernel_rfl) ?_
 simp only [Tree.holds, zd]
 refine ⟨l, ⟨by simp [za], hl⟩, ⟨_, rfl⟩, ?_⟩
 rintro _ rfl
 rw [← Wo] at hq
 exact RetR.scal hq rfl (by simp [resV])
def ze7 : Ctr := ctrP true (fun l : List Ch => [chS l, .fn 56 [] []]) (fun l => l.length < 2 ^ 40 ∧ ∀ j, j < l.length → qj (l.getD j Ch.nil)) (fun l r => r = idxB (fun x => !okC x) l) (fun _ (r : Int) => (.int .i64 r, []))
def SIxC (l : List Ch) (i : Nat) : KV := [(0, chS l), (1, .fn 56 [] []), (7, .int .i64 (l.length : Int)), (8, .int .i64 (i : Int))]
noncomputable def GE2C : Nat → Option Ctr := fun f => if f = 56 then some (zec) else none
theorem KN : ∀ g c, GE2C g = some c → ze Tryz.prog g c := okIf zds (zn)
theorem zco : ze Tryz.prog 82 ze7 := by
 refine zh (fn := Tryz.f82) (c := Tryz.f82.body.getD .skip) rfl rfl rfl fun l hl O w0 Q hq => ?_
 obtain ⟨hl, hsm⟩ := hl
 replace hq := hq _ rfl
 refine zc.run hmix KN [0, 1, 7, 8] 400 (T := .leaf (.loop (Prod.fst (lps K82 0)) (Prod.snd (lps K82 0)) [(0, .sl l.length 4 (chG l)), (1, .fn 56 [] []), (7, .int .i64 l.length), (8, .int .i64 0)] [])) (by kernel_rfl) ?_
 simp only [Tree.holds, zd]
 refine zc.loop (ι := {i : Nat // i ≤ l.length ∧ ∀ j, j < i → (!okC (l.getD j Ch.nil)) = false}) (fun i => SIxC l i.1) (fun _ => []) (fun i => l.length - i.1) ⟨0, Nat.zero_le _, fun j hj => by omega⟩ 0 ?_ ?_ (by kernel_rfl)
 ·exact ⟨by simp [SIxC, chS, za], by simp, by kernel_rfl, Nat.zero_le _⟩
 ·rintro ⟨i, hil, hib⟩
  refine zc.run hmix KN [0, 1, 7, 8] 400 (T := .ite (decide ((↑i : Int) < l.length)) (.side ((0 : Int) ≤ i ∧ (↑i : Int) < l.length) (.ex (fun (x : Ch) => eqL [AV.agg [AV.str (Ch.zb (List.getD l (Int.toNat (↑i : Int)) Ch.nil)), AV.str (Ch.name (List.getD l (Int.toNat (↑i : Int)) Ch.nil)), AV.int .i64 (Ch.date (List.getD l (Int.toNat (↑i : Int)) Ch.nil)), AV.bool (Ch.first (List.getD l (Int.toNat (↑i : Int)) Ch.nil))]] [AV.agg [AV.str x.zb, AV.str x.name, AV.int .i64 x.date, AV.bool x.first]] ∧ qj x) fun n => .all (fun (r : Bool) => r = !okC n) fun n => .ite n (.leaf (.ret [.int .i64 i] [])) (.side (inR .i64 ((↑i : Int) + (1 : Int))) (.leaf (.back 0 [(0, .sl l.length 4 (chG l)), (1, .fn 56 [] []), (7, .int .i64 l.length), (8, .int .i64 ((↑i : Int) + (1 : Int)))] []))))) (.leaf (.ret [.int .i64 (-1 : Int)] []))) (by kernel_rfl) ?_
  simp only [Tree.holds, zd, inR, lo, hi, Int.toNat_natCast]
  refine ⟨fun hlt => ?_, fun hge => ?_⟩
  ·have hlt : i < l.length := by have := of_decide_eq_true hlt; omega
   refine ⟨by omega, fun _ => ⟨l.getD i Ch.nil, ⟨by simp, hsm i hlt⟩, ⟨_, rfl⟩, ?_⟩⟩
   rintro _ rfl
   refine ⟨fun h => ?_, fun h => ⟨by omega, fun _ => ?_⟩⟩
   ·rw [yz hlt h hib] at hq
    exact RetR.scal hq rfl (by simp [resV])
   ·rw [if_pos trivial]
    refine ⟨⟨i + 1, hlt, fun j hj => ?_⟩, by show l.length - (i + 1) < l.length - i; omega, by simp [SIxC, chS, za], by simp, by kernel_rfl, Nat.zero_le _⟩
    rcases Nat.lt_or_ge j i with h1 | h1
    ·exact hib j h1
    ·have : j = i := by omega
     rw [this]; exact h
  ·have hge : i = l.length := by have := of_decide_eq_false hge; omega
   subst hge
   rw [v8 hib] at hq
   exact RetR.scal hq rfl (by simp [resV])
def ze8 : Ctr := ctrP true (fun l : List Ch => [chS l, .fn 56 [] []]) (fun l => l.length < 2 ^ 40 ∧ ∀ j, j < l.length → qj (l.getD j Ch.nil)) (fun l r => r = l.any fun x => !okC x) (fun _ (r : Bool) => (.bool r, []))
noncomputable def GE3C : Nat → Option Ctr := fun f => if f = 82 then some (ze7) else none
theorem zdf : ∀ g c, GE3C g = some c → ze Tryz.prog g c := okIf zco (zn)
theorem zdz : ze Tryz.prog 58 ze8 := by
 refine zh (fn := Tryz.f58) (c := Tryz.f58.body.getD .skip) rfl rfl rfl fun l hl O w0 Q hq => ?_
 replace hq := hq _ rfl
 refine zc.run hmix zdf [] 400 (T := .ex (fun (x : List Ch) => eqL [AV.sl l.length 4 (chG l), AV.fn 56 [] []] [AV.sl x.length 4 (chG x), AV.fn 56 [] []] ∧ x.length < 1099511627776 ∧ ∀ (j : Nat), j < x.length → qj (x.getD j Ch.nil)) fun n => .all (fun (r : Int) => r = idxB (fun (x : Ch) => !okC x) n) fun n => .leaf (.ret [.bool (decide ((0 : Int) ≤ n))] [])) (by kernel_rfl) ?_
 simp only [Tree.holds, zd]
 refine ⟨l, ⟨by simp [za], hl⟩, ⟨_, rfl⟩, ?_⟩
 rintro _ rfl
 rw [← Wo] at hq
 exact RetR.scal hq rfl (by simp [resV])
def zea : Ctr := ctrP true (fun l : List Fx => [fxS l, .fn 39 [] []]) (fun l => l.length < 2 ^ 40) (fun l r => r = ordB cmpF Fx.nil l) (fun _ (r : Bool) => (.bool r, []))
def SOdF (l : List Fx) (i : Nat) : KV := [(0, fxS l), (1, .fn 39 [] []), (5, .int .i64 (i : Int))]
noncomputable def GE4F : Nat → Option Ctr := fun f => if f = 39 then some (yr) else none
theorem X9 : ∀ g c, GE4F g = some c → ze Tryz.prog g c := okIf x9 (zn)
theorem zcw : ze Tryz.prog 59 zea := by
 refine zh (fn := Tryz.f59) (c := Tryz.f59.body.getD .skip) rfl rfl rfl fun l hl O w0 Q hq => ?_
 replace hq := hq _ rfl
 refine zc.run hmix X9 [0, 1, 5] 400 (T := .leaf (.loop (Prod.fst (lps K59 0)) (Prod.snd (lps K59 0)) [(0, .sl l.length 3 (fxG l)), (1, .fn 39 [] []), (5, .int .i64 1)] [])) (by kernel_rfl) ?_
 simp only [Tree.holds, zd]
 refine zc.loop (ι := {i : Nat // 0 < i ∧ (i ≤ l.length ∨ i = 1) ∧ ∀ j, j + 1 < i → cmpF (l.getD j Fx.nil) (l.getD (j + 1) Fx.nil) < 0}) (fun i => SOdF l i.1) (fun _ => []) (fun i => l.length - i.1) ⟨1, Nat.one_pos, .inr rfl, fun j hj => by omega⟩ 0 ?_ ?_ (by kernel_rfl)
 ·exact ⟨by simp [SOdF, fxS, za], by simp, by kernel_rfl, Nat.zero_le _⟩
 ·rintro ⟨i, hi0, hil, hib⟩
  refine zc.run hmix X9 [0, 1, 5] 400 (T := .ite (decide ((↑i : Int) < l.length)) (.side (inR .i64 ((↑i : Int) - (1 : Int))) (.side ((0 : Int) ≤ i - (1 : Int) ∧ (↑i : Int) - (1 : Int) < l.length) (.side ((0 : Int) ≤ i ∧ (↑i : Int) < l.length) (.ex (fun (x : Fx × Fx) => eqL [AV.agg [AV.str (Fx.name (List.getD l (Int.toNat ((↑i : Int) - (1 : Int))) Fx.nil)), AV.int .i64 (Fx.date (List.getD l (Int.toNat ((↑i : Int) - (1 : Int))) Fx.nil)), AV.str (Fx.value (List.getD l (Int.toNat ((↑i : Int) - (1 : Int))) Fx.nil))], AV.agg [AV.str (Fx.name (List.getD l (Int.toNat (↑i : Int)) Fx.nil)), AV.int .i64 (Fx.date (List.getD l (Int.toNat (↑i : Int)) Fx.nil)), AV.str (Fx.value (List.getD l (Int.toNat (↑i : Int)) Fx.nil))]] [AV.agg [AV.str x.1.name, AV.int .i64 x.1.date, AV.str x.1.value], AV.agg [AV.str x.2.name, AV.int .i64 x.2.date, AV.str x.2.value]] ∧ True) fun n => .all (fun (r : Int) => r = cmpF n.1 n.2) fun n => .ite (decide ((0 : Int) ≤ n)) (.leaf (.ret [.bool false] [])) (.side (inR .i64 ((↑i : Int) + (1 : Int))) (.leaf (.back 0 [(0, .sl l.length 3 (fxG l)), (1, .fn 39 [] []), (5, .int .i64 ((↑i : Int) + (1 : Int)))] []))))))) (.leaf (.ret [.bool true] []))) (by kernel_rfl) ?_
  simp only [Tree.holds, zd, inR, lo, hi, Int.toNat_natCast]
  have e : ((i : Int) - 1).toNat = i - 1 := by omega
  have e2 : i - 1 + 1 = i := by omega
  refine ⟨fun hlt => ?_, fun hge => ?_⟩
  ·have hlt : i < l.length := by have := of_decide_eq_true hlt; omega
   simp only [e]
   refine ⟨by omega, fun _ => ⟨by omega, fun _ => ⟨by omega, fun _ => ⟨(l.getD (i - 1) Fx.nil, l.getD i Fx.nil), ⟨by simp, trivial⟩, ⟨_, rfl⟩, ?_⟩⟩⟩⟩
   rintro _ rfl
   refine ⟨fun h => ?_, fun h => ⟨by omega, fun _ => ?_⟩⟩
   ·have h := of_decide_eq_true h
    rw [xX (z := Fx.nil) (j := i - 1) (by omega) (by rw [e2]; simp only at h; omega)] at hq
    exact RetR.scal hq rfl (by simp [resV])
   ·have h := of_decide_eq_false h
    rw [if_pos trivial]
    refine ⟨⟨i + 1, by omega, .inl hlt, fun j hj => ?_⟩, by show l.length - (i + 1) < l.length - i; omega, by simp [SOdF, fxS, za], by simp, by kernel_rfl, Nat.zero_le _⟩
    rcases Nat.lt_or_ge (j + 1) i with h1 | h1
    ·exact hib j h1
    ·have : j = i - 1 := by omega
     rw [this, e2]; simp only at h; omega
  ·have hge : l.length ≤ i := by have := of_decide_eq_false hge; omega
   rw [kG (z := Fx.nil) fun j hj => hib j (by omega)] at hq
   exact RetR.scal hq rfl (by simp [resV])
def zep : Ctr := ctrP true (fun l : List Ch => [chS l, .fn 42 [] []]) (fun l => l.length < 2 ^ 40) (fun l r => r = ordB cmpC Ch.nil l) (fun _ (r : Bool) => (.bool r, []))
def SOdC (l : List Ch) (i : Nat) : KV := [(0, chS l), (1, .fn 42 [] []), (5, .int .i64 (i : Int))]
noncomputable def GE4C : Nat → Option Ctr := fun f => if f = 42 then some (yM) else none
theorem Xu : ∀ g c, GE4C g = some c → ze Tryz.prog g c := okIf xQ (zn)
theorem zd8 : ze Tryz.prog 60 zep := by
 refine zh (fn := Tryz.f60) (c := Tryz.f60.body.getD .skip) rfl rfl rfl fun l hl O w0 Q hq => ?_
 replace hq := hq _ rfl
 refine zc.run hmix Xu [0, 1, 5] 400 (T := .leaf (.loop (Prod.fst (lps K60 0)) (Prod.snd (lps K60 0)) [(0, .sl l.length 4 (chG l)), (1, .fn 42 [] []), (5, .int .i64 1)] [])) (by kernel_rfl) ?_
 simp only [Tree.holds, zd]
 refine zc.loop (ι := {i : Nat // 0 < i ∧ (i ≤ l.length ∨ i = 1) ∧ ∀ j, j + 1 < i → cmpC (l.getD j Ch.nil) (l.getD (j + 1) Ch.nil) < 0}) (fun i => SOdC l i.1) (fun _ => []) (fun i => l.length - i.1) ⟨1, Nat.one_pos, .inr rfl, fun j hj => by omega⟩ 0 ?_ ?_ (by kernel_rfl)
 ·exact ⟨by simp [SOdC, chS, za], by simp, by kernel_rfl, Nat.zero_le _⟩
 ·rintro ⟨i, hi0, hil, hib⟩
  refine zc.run hmix Xu [0, 1, 5] 400 (T := .ite (decide ((↑i : Int) < l.length)) (.side (inR .i64 ((↑i : Int) - (1 : Int))) (.side ((0 : Int) ≤ i - (1 : Int) ∧ (↑i : Int) - (1 : Int) < l.length) (.side ((0 : Int) ≤ i ∧ (↑i : Int) < l.length) (.ex (fun (x : Ch × Ch) => eqL [AV.agg [AV.str (Ch.zb (List.getD l (Int.toNat ((↑i : Int) - (1 : Int))) Ch.nil)), AV.str (Ch.name (List.getD l (Int.toNat ((↑i : Int) - (1 : Int))) Ch.nil)), AV.int .i64 (Ch.date (List.getD l (Int.toNat ((↑i : Int) - (1 : Int))) Ch.nil)), AV.bool (Ch.first (List.getD l (Int.toNat ((↑i : Int) - (1 : Int))) Ch.nil))], AV.agg [AV.str (Ch.zb (List.getD l (Int.toNat (↑i : Int)) Ch.nil)), AV.str (Ch.name (List.getD l (Int.toNat (↑i : Int)) Ch.nil)), AV.int .i64 (Ch.date (List.getD l (Int.toNat (↑i : Int)) Ch.nil)), AV.bool (Ch.first (List.getD l (Int.toNat (↑i : Int)) Ch.nil))]] [AV.agg [AV.str x.1.zb, AV.str x.1.name, AV.int .i64 x.1.date, AV.bool x.1.first], AV.agg [AV.str x.2.zb, AV.str x.2.name, AV.int .i64 x.2.date, AV.bool x.2.first]] ∧ True) fun n => .all (fun (r : Int) => r = cmpC n.1 n.2) fun n => .ite (decide ((0 : Int) ≤ n)) (.leaf (.ret [.bool false] [])) (.side (inR .i64 ((↑i : Int) + (1 : Int))) (.leaf (.back 0 [(0, .sl l.length 4 (chG l)), (1, .fn 42 [] []), (5, .int .i64 ((↑i : Int) + (1 : Int)))] []))))))) (.leaf (.ret [.bool true] []))) (by kernel_rfl) ?_
  simp only [Tree.holds, zd, inR, lo, hi, Int.toNat_natCast]
  have e : ((i : Int) - 1).toNat = i - 1 := by omega
  have e2 : i - 1 + 1 = i := by omega
  refine ⟨fun hlt => ?_, fun hge => ?_⟩
  ·have hlt : i < l.length := by have := of_decide_eq_true hlt; omega
   simp only [e]
   refine ⟨by omega, fun _ => ⟨by omega, fun _ => ⟨by omega, fun _ => ⟨(l.getD (i - 1) Ch.nil, l.getD i Ch.nil), ⟨by simp, trivial⟩, ⟨_, rfl⟩, ?_⟩⟩⟩⟩
   rintro _ rfl
   refine ⟨fun h => ?_, fun h => ⟨by omega, fun _ => ?_⟩⟩
   ·have h := of_decide_eq_true h
    rw [xX (z := Ch.nil) (j := i - 1) (by omega) (by rw [e2]; simp only at h; omega)] at hq
    exact RetR.scal hq rfl (by simp [resV])
   ·have h := of_decide_eq_false h
    rw [if_pos trivial]
    refine ⟨⟨i + 1, by omega, .inl hlt, fun j hj => ?_⟩, by show l.length - (i + 1) < l.length - i; omega, by simp [SOdC, chS, za], by simp, by kernel_rfl, Nat.zero_le _⟩
    rcases Nat.lt_or_ge (j + 1) i with h1 | h1
    ·exact hib j h1
    ·have : j = i - 1 := by omega
     rw [this, e2]; simp only at h; omega
  ·have hge : l.length ≤ i := by have := of_decide_eq_false hge; omega
   rw [kG (z := Ch.nil) fun j hj => hib j (by omega)] at hq
   exact RetR.scal hq rfl (by simp [resV])
def envP (p : List Fx × List Ch) : Prop := p.1.length < 2 ^ 40 ∧ p.2.length < 2 ^ 40 ∧ (∀ j, j < p.1.length → qn (p.1.getD j Fx.nil)) ∧ ∀ j, j < p.2.length → qj (p.2.getD j Ch.nil)
def yp : Ctr := ctrP true (fun p : List Fx × List Ch => [envA p.1 p.2]) envP (fun p r => r = errE p.1 p.2) (fun _ (r : Int) => (.int .i64 r, []))
noncomputable def GE5 : Nat → Option Ctr := fun f => if f = 57 then some (ze6) else if f = 58 then some (ze8) else if f = 59 then some (zea) else if f = 60 then some (zep) else none
theorem zfw : ∀ g c, GE5 g = some c → ze Tryz.prog g c := okIf zd2 (okIf zdz (okIf zcw (okIf zd8 (zn))))
theorem Yi : ze Tryz.prog 34 yp := by
 refine zh (fn := Tryz.f34) (c := Tryz.f34.body.getD .skip) rfl rfl rfl fun p hp O w0 Q hq => ?_
 obtain ⟨f, c⟩ := p
 obtain ⟨h1, h2, h3, h4⟩ := hp
 replace hq := hq _ rfl
 simp only at hq h1 h2 h3 h4
 refine zc.run hmix zfw [] 400 (T := .ite (bif decide ((1000 : Int) < f.length) then true else decide ((1000 : Int) < c.length)) (.leaf (.ret [.int .i64 4] [.box [.sl f.length 3 (fxG f), .sl c.length 4 (chG c)]])) (.ex (fun (x : List Fx) => eqL [AV.sl f.length 3 (fxG f), AV.fn 55 [] []] [AV.sl x.length 3 (fxG x), AV.fn 55 [] []] ∧ x.length < 1099511627776 ∧ ∀ (j : Nat), j < x.length → qn (x.getD j Fx.nil)) fun n => .all (fun (r : Bool) => r = List.any n fun (x : Fx) => !okF x) fun n => .ex (fun (x : List Ch) => n = false → eqL [AV.sl c.length 4 (chG c), AV.fn 56 [] []] [AV.sl x.length 4 (chG x), AV.fn 56 [] []] ∧ x.length < 1099511627776 ∧ ∀ (j : Nat), j < x.length → qj (x.getD j Ch.nil)) fun n_1 => .all (fun (x : Bool) => n = false → x = List.any n_1 fun (x : Ch) => !okC x) fun n_2 => .ex (fun (x : List Fx) => (bif n then true else n_2) = false → eqL [AV.sl f.length 3 (fxG f), AV.fn 39 [] []] [AV.sl x.length 3 (fxG x), AV.fn 39 [] []] ∧ x.length < 1099511627776) fun n_3 => .all (fun (x : Bool) => (bif n then true else n_2) = false → x = ordB cmpF Fx.nil n_3) fun n_4 => .ex (fun (x : List Ch) => (bif bif n then true else n_2 then true else !n_4) = false → eqL [AV.sl c.length 4 (chG c), AV.fn 42 [] []] [AV.sl x.length 4 (chG x), AV.fn 42 [] []] ∧ x.length < 1099511627776) fun n_5 => .all (fun (x : Bool) => (bif bif n then true else n_2 then true else !n_4) = false → x = ordB cmpC Ch.nil n_5) fun n_6 => .ite (bif bif bif n then true else n_2 then true else !n_4 then true else !n_6) (.leaf (.ret [.int .i64 8] [.box [.sl f.length 3 (fxG f), .sl c.length 4 (chG c)]])) (.leaf (.ret [.int .i64 0] [.box [.sl f.length 3 (fxG f), .sl c.length 4 (chG c)]])))) (by kernel_rfl) ?_
 simp only [Tree.holds, zd]
 refine ⟨fun h => ?_, fun h => ?_⟩
 ·have h : 1000 < f.length ∨ 1000 < c.length := by
   rw [Bool.cond_eq_ite] at h
   split at h
   ·rename_i h1; left; have := of_decide_eq_true h1; omega
   ·right; have := of_decide_eq_true h; omega
  have : errE f c = 4 := if_pos h
  rw [this] at hq; exact RetR.scal hq rfl (by simp [resV])
 ·have h : ¬ (1000 < f.length ∨ 1000 < c.length) := by
   rw [Bool.cond_eq_ite] at h
   split at h
   ·cases h
   ·rename_i h1
    have h2 := of_decide_eq_false h
    rintro (h3 | h3)
    ·exact h1 (decide_eq_true (by omega))
    ·omega
  have he : errE f c = if (f.all okF && c.all okC && ordB cmpF Fx.nil f && ordB cmpC Ch.nil c) = true then 0 else 8 := if_neg h
  have a1 : (f.any fun x => !okF x) = !f.all okF := by rw [List.not_all_eq_any_not]
  have a2 : (c.any fun x => !okC x) = !c.all okC := by rw [List.not_all_eq_any_not]
  refine ⟨f, ⟨by simp [za], h1, h3⟩, ⟨_, rfl⟩, ?_⟩
  rintro _ rfl
  refine ⟨c, fun _ => ⟨by simp [za], h2, h4⟩, ⟨_, fun _ => rfl⟩, ?_⟩
  intro b1 g1
  refine ⟨f, fun _ => ⟨by simp [za], h1⟩, ⟨_, fun _ => rfl⟩, ?_⟩
  intro b2 g2
  refine ⟨c, fun _ => ⟨by simp [za], h2⟩, ⟨_, fun _ => rfl⟩, ?_⟩
  intro b3 g3
  rw [a1] at g1 g2 g3 ⊢
  rw [a2] at g1
  clear a1 a2
  generalize f.all okF = p1 at *
  generalize c.all okC = p2 at *
  generalize ordB cmpF Fx.nil f = p3 at *
  generalize ordB cmpC Ch.nil c = p4 at *
  have key : (bif bif bif !p1 then true else b1 then true else !b2 then true else !b3) = !(p1 && p2 && p3 && p4) := by
   cases p1 with
   | false => rfl
   | true =>
    have g1 := g1 rfl
    subst g1
    cases p2 with
    | false => rfl
    | true =>
     have g2 := g2 rfl
     subst g2
     cases b2 with
     | false => rfl
     | true => have g3 := g3 rfl; subst g3; rfl
  rw [key]
  clear key g1 g2 g3
  generalize (p1 && p2 && p3 && p4) = q at *
  refine ⟨fun h => ?_, fun h => ?_⟩
  ·cases q with
   | true => cases h
   | false => rw [he, if_neg (by decide)] at hq; exact RetR.scal hq rfl (by simp [resV])
  ·cases q with
   | false => cases h
   | true => rw [he, if_pos rfl] at hq; exact RetR.scal hq rfl (by simp [resV])
end Go.Proofs.Tryz
end

/- What is known: the reference's checks. -/
section
set_option maxRecDepth 100000
open Go Go.Sx Go.Proofs Go.Nov
namespace Go.Proofs.Tryz
attribute [local simp] eqKV eqA eqA0 eqH eqB eqL eqL0
noncomputable def K11 : List Go.Sx.Item := [.code (Tryz.f11.body.getD .skip)]
def SSE (i : Nat) : KV := [(2, .ptr 0 0), (3, .ptr 1 0), (5, .int .i64 (i : Int)), (6, .undef)]
def SSE2 (i : Nat) : KV := [(2, .ptr 0 0), (3, .ptr 1 0), (5, .undef), (6, .int .i64 (i : Int))]
def HSE (f f2 : List Fx) (c c2 : List Ch) : Heap := [.box [fxS f, chS c], .box [fxS f2, chS c2]]
def Vy : Ctr := ctrP true (fun p : (List Fx × List Ch) × (List Fx × List Ch) => [envA p.1.1 p.1.2, envA p.2.1 p.2.2]) (fun p => p.1.1.length < 2 ^ 40 ∧ p.1.2.length < 2 ^ 40) (fun p r => (r = true ↔ p.1 = p.2)) (fun _ (r : Bool) => (.bool r, []))
theorem Ws {O : Nat → Prop} {w0 : World} {Q : AV × Heap → Prop} {Hs : Nat → KV → Heap → Prop} (f f2 : List Fx) (c c2 : List Ch) (h2 : c.length < 2 ^ 40) (hf : f = f2) (hl : c.length = c2.length) (hq : ∀ (r : Bool), (r = true ↔ (f, c) = (f2, c2)) → Q (.bool r, [])) (kv : KV) (h : Heap) (hle : LeK 0 Tryz.f11.ntmps kv h (SSE2 0) (HSE f f2 c c2)) :
  zc Tryz.prog Tryz.f11 O 0 w0 [] Hs (RetR Vy 0 Q) (.code (.loop (lps (inside K11 0) 0).1) :: (lps (inside K11 0) 0).2) (mk Tryz.f11.ntmps kv h) := by
 refine zc.loop (ι := {i : Nat // i ≤ c.length ∧ ∀ j, j < i → c.getD j Ch.nil = c2.getD j Ch.nil}) (fun i => SSE2 i.1) (fun _ => HSE f f2 c c2) (fun i => c.length - i.1) ⟨0, Nat.zero_le _, fun j hj => by omega⟩ 0 hle ?_ (by kernel_rfl)
 rintro ⟨i, hil, hib⟩
 refine zc.run hmix zr [2, 3, 5, 6] 400 (T := .ite (decide ((↑i : Int) < c.length)) (.side ((0 : Int) ≤ i ∧ (↑i : Int) < c.length) (.side ((0 : Int) ≤ i ∧ (↑i : Int) < c2.length) (.ite (!(decide (Ch.zb (List.getD c (Int.toNat (↑i : Int)) Ch.nil) = Ch.zb (List.getD c2 (Int.toNat (↑i : Int)) Ch.nil)) && (decide (Ch.name (List.getD c (Int.toNat (↑i : Int)) Ch.nil) = Ch.name (List.getD c2 (Int.toNat (↑i : Int)) Ch.nil)) && (decide (Ch.date (List.getD c (Int.toNat (↑i : Int)) Ch.nil) = Ch.date (List.getD c2 (Int.toNat (↑i : Int)) Ch.nil)) && (Ch.first (List.getD c (Int.toNat (↑i : Int)) Ch.nil) == Ch.first (List.getD c2 (Int.toNat (↑i : Int)) Ch.nil) && true))))) (.leaf (.ret [.bool false] [.box [.sl f.length 3 (fxG f), .sl c.length 4 (chG c)], .box [.sl f2.length 3 (fxG f2), .sl c2.length 4 (chG c2)]])) (.side (inR .i64 ((↑i : Int) + (1 : Int))) (.leaf (.back 0 [(2, .ptr 0 0), (3, .ptr 1 0), (5, .undef), (6, .int .i64 ((↑i : Int) + (1 : Int)))] [.box [.sl f.length 3 (fxG f), .sl c.length 4 (chG c)], .box [.sl f2.length 3 (fxG f2), .sl c2.length 4 (chG c2)]])))))) (.leaf (.ret [.bool true] [.box [.sl f.length 3 (fxG f), .sl c.length 4 (chG c)], .box [.sl f2.length 3 (fxG f2), .sl c2.length 4 (chG c2)]]))) (by kernel_rfl) ?_
 simp only [Tree.holds, zd, inR, lo, hi, Int.toNat_natCast]
 refine ⟨fun hlt => ?_, fun hge => ?_⟩
 ·have hlt : i < c.length := by have := of_decide_eq_true hlt; omega
  refine ⟨by omega, fun _ => ⟨by omega, fun _ => ⟨fun h => ?_, fun h => ⟨by omega, fun _ => ?_⟩⟩⟩⟩
  ·refine RetR.scal (hq false ⟨fun h => (by cases h), fun he => ?_⟩) rfl (by simp [resV])
   have hc : c = c2 := (Prod.mk.inj he).2
   have := Ch.eq_iff.2 (show c.getD i Ch.nil = c2.getD i Ch.nil by rw [hc])
   rw [this] at h; cases h
  ·rw [if_pos trivial]
   have he := Ch.eq_iff.1 (by simpa only [Bool.not_eq_false'] using h)
   refine ⟨⟨i + 1, hlt, fun j hj => ?_⟩, by show c.length - (i + 1) < c.length - i; omega, by simp [SSE2], by simp [HSE, fxS, chS, za], by kernel_rfl, Nat.zero_le _⟩
   rcases Nat.lt_or_ge j i with h1 | h1
   ·exact hib j h1
   ·have : j = i := by omega
    rw [this]; exact he
 ·have hge : i = c.length := by have := of_decide_eq_false hge; omega
  subst hge
  have hc := W3 hl hib
  exact RetR.scal (hq true ⟨fun _ => by rw [hf, hc], fun _ => rfl⟩) rfl (by simp [resV])
theorem zbn : ze Tryz.prog 11 Vy := by
 refine zh (fn := Tryz.f11) (c := Tryz.f11.body.getD .skip) rfl rfl rfl fun p hp O w0 Q hq => ?_
 obtain ⟨⟨f, c⟩, ⟨f2, c2⟩⟩ := p
 obtain ⟨h1, h2⟩ := hp
 simp only at hq h1 h2
 refine zc.run hmix zr [2, 3, 5, 6] 400 (T := .ite (bif !decide ((↑f.length : Int) = f2.length) then true else !decide ((↑c.length : Int) = c2.length)) (.leaf (.ret [.bool false] [.box [.sl f.length 3 (fxG f), .sl c.length 4 (chG c)], .box [.sl f2.length 3 (fxG f2), .sl c2.length 4 (chG c2)]])) (.leaf (.loop (Prod.fst (lps K11 0)) (Prod.snd (lps K11 0)) [(2, .ptr 0 0), (3, .ptr 1 0), (5, .int .i64 0), (6, .undef)] [.box [.sl f.length 3 (fxG f), .sl c.length 4 (chG c)], .box [.sl f2.length 3 (fxG f2), .sl c2.length 4 (chG c2)]]))) (by kernel_rfl) ?_
 simp only [Tree.holds, zd]
 refine ⟨fun h => ?_, fun h => ?_⟩
 ·refine RetR.scal (hq false ⟨fun h => (by cases h), fun he => ?_⟩) rfl (by simp [resV])
  obtain ⟨e1, e2⟩ := Prod.mk.inj he
  subst e1; subst e2
  simp at h
 ·have hl : f.length = f2.length ∧ c.length = c2.length := by
   by_cases e1 : f.length = f2.length
   ·by_cases e2 : c.length = c2.length
    ·exact ⟨e1, e2⟩
    ·rw [decide_eq_false (show ¬ ((c.length : Nat) : Int) = c2.length by omega)] at h
     rw [decide_eq_true (show ((f.length : Nat) : Int) = f2.length by omega)] at h
     cases h
   ·rw [decide_eq_false (show ¬ ((f.length : Nat) : Int) = f2.length by omega)] at h
    cases h
  refine zc.loop (ι := {i : Nat // i ≤ f.length ∧ ∀ j, j < i → f.getD j Fx.nil = f2.getD j Fx.nil}) (fun i => SSE i.1) (fun _ => HSE f f2 c c2) (fun i => f.length - i.1) ⟨0, Nat.zero_le _, fun j hj => by omega⟩ 0 ?_ ?_ (by kernel_rfl)
  ·exact ⟨by simp [SSE], by simp [HSE, fxS, chS, za], by kernel_rfl, Nat.zero_le _⟩
  ·rintro ⟨i, hil, hib⟩
   refine zc.run hmix zr [2, 3, 5, 6] 400 (T := .ite (decide ((↑i : Int) < f.length)) (.side ((0 : Int) ≤ i ∧ (↑i : Int) < f.length) (.side ((0 : Int) ≤ i ∧ (↑i : Int) < f2.length) (.ite (!(decide (Fx.name (List.getD f (Int.toNat (↑i : Int)) Fx.nil) = Fx.name (List.getD f2 (Int.toNat (↑i : Int)) Fx.nil)) && (decide (Fx.date (List.getD f (Int.toNat (↑i : Int)) Fx.nil) = Fx.date (List.getD f2 (Int.toNat (↑i : Int)) Fx.nil)) && (decide (Fx.value (List.getD f (Int.toNat (↑i : Int)) Fx.nil) = Fx.value (List.getD f2 (Int.toNat (↑i : Int)) Fx.nil)) && true)))) (.leaf (.ret [.bool false] [.box [.sl f.length 3 (fxG f), .sl c.length 4 (chG c)], .box [.sl f2.length 3 (fxG f2), .sl c2.length 4 (chG c2)]])) (.side (inR .i64 ((↑i : Int) + (1 : Int))) (.leaf (.back 0 [(2, .ptr 0 0), (3, .ptr 1 0), (5, .int .i64 ((↑i : Int) + (1 : Int))), (6, .undef)] [.box [.sl f.length 3 (fxG f), .sl c.length 4 (chG c)], .box [.sl f2.length 3 (fxG f2), .sl c2.length 4 (chG c2)]])))))) (.leaf (.loop (Prod.fst (lps (inside K11 0) 0)) (Prod.snd (lps (inside K11 0) 0)) [(2, .ptr 0 0), (3, .ptr 1 0), (5, .int .i64 i), (6, .int .i64 0)] [.box [.sl f.length 3 (fxG f), .sl c.length 4 (chG c)], .box [.sl f2.length 3 (fxG f2), .sl c2.length 4 (chG c2)]]))) (by kernel_rfl) ?_
   simp only [Tree.holds, zd, inR, lo, hi, Int.toNat_natCast]
   refine ⟨fun hlt => ?_, fun hge => ?_⟩
   ·have hlt : i < f.length := by have := of_decide_eq_true hlt; omega
    refine ⟨by omega, fun _ => ⟨by omega, fun _ => ⟨fun h => ?_, fun h => ⟨by omega, fun _ => ?_⟩⟩⟩⟩
    ·refine RetR.scal (hq false ⟨fun h => (by cases h), fun he => ?_⟩) rfl (by simp [resV])
     have hc : f = f2 := (Prod.mk.inj he).1
     have := Fx.eq_iff.2 (show f.getD i Fx.nil = f2.getD i Fx.nil by rw [hc])
     rw [this] at h; cases h
    ·rw [if_pos trivial]
     have he := Fx.eq_iff.1 (by simpa only [Bool.not_eq_false'] using h)
     refine ⟨⟨i + 1, hlt, fun j hj => ?_⟩, by show f.length - (i + 1) < f.length - i; omega, by simp [SSE], by simp [HSE, fxS, chS, za], by kernel_rfl, Nat.zero_le _⟩
     rcases Nat.lt_or_ge j i with h1 | h1
     ·exact hib j h1
     ·have : j = i := by omega
      rw [this]; exact he
   ·have hge : i = f.length := by have := of_decide_eq_false hge; omega
    subst hge
    have hf := W3 hl.1 hib
    exact Ws f f2 c c2 h2 hf hl.2 hq _ _ ⟨by simp [SSE2], by simp [HSE, fxS, chS, za], by kernel_rfl, Nat.zero_le _⟩
end Go.Proofs.Tryz
end

/- What is known: the reference's checks, finding, copies. -/
section
set_option maxRecDepth 100000
open Go Go.Sx Go.Proofs Go.Nov
namespace Go.Proofs.Tryz
attribute [local simp] eqKV eqA eqA0 eqH eqB eqL eqL0
noncomputable def K46 : List Go.Sx.Item := [.code (Tryz.f46.body.getD .skip)]
def Zy : Ctr := ctrP true (fun p : Fx × Fx => [p.1.av, p.2.av]) (fun _ => True) (fun p r => r = decide (cmpF p.1 p.2 < 0)) (fun _ (r : Bool) => (.bool r, []))
def ZO : Ctr := ctrP true (fun p : Ch × Ch => [p.1.av, p.2.av]) (fun _ => True) (fun p r => r = decide (cmpC p.1 p.2 < 0)) (fun _ (r : Bool) => (.bool r, []))
theorem Qp : ze Tryz.prog 50 Zy := by
 refine zh (fn := Tryz.f50) (c := Tryz.f50.body.getD .skip) rfl rfl rfl fun p hs O w0 Q hq => ?_
 obtain ⟨⟨a, d, v⟩, ⟨b, e, u⟩⟩ := p
 replace hq := hq _ rfl
 simp only at hq
 refine zc.run hmix zr [] 400 (T := .leaf (.ret [.bool (bif Op.bytesLess a b then true else bif decide (a = b) then decide (d < e) else false)] [.box [.str a, .int .i64 d, .str v], .box [.str b, .int .i64 e, .str u]])) (by kernel_rfl) ?_
 simp only [Tree.holds, zd]
 refine RetR.scal hq rfl ?_
 simp only [resV, cmpF]
 rw [uI (n := cmpI d e) (by simp only [Wg])]
theorem Z1 : ze Tryz.prog 51 ZO := by
 refine zh (fn := Tryz.f51) (c := Tryz.f51.body.getD .skip) rfl rfl rfl fun p hs O w0 Q hq => ?_
 obtain ⟨⟨a, v, d, x⟩, ⟨b, u, e, y⟩⟩ := p
 replace hq := hq _ rfl
 simp only at hq
 refine zc.run hmix zr [] 400 (T := .ite (!decide (a = b)) (.leaf (.ret [.bool (Op.bytesLess a b)] [.box [.str a, .str v, .int .i64 d, .bool x], .box [.str b, .str u, .int .i64 e, .bool y]])) (.leaf (.ret [.bool (bif Op.bytesLess v u then true else bif decide (v = u) then decide (d < e) else false)] [.box [.str a, .str v, .int .i64 d, .bool x], .box [.str b, .str u, .int .i64 e, .bool y]]))) (by kernel_rfl) ?_
 simp only [Tree.holds, zd]
 refine ⟨fun h => ?_, fun h => ?_⟩
 ·refine RetR.scal hq rfl ?_
  have h : a ≠ b := by simpa using h
  simp only [resV, cmpC]
  rw [if_neg (fun h2 => h (ji.1 h2))]
  simp only [Jw]
  cases Op.bytesLess a b <;> rfl
 ·refine RetR.scal hq rfl ?_
  have h : a = b := by simpa using h
  simp only [resV, cmpC]
  rw [if_pos (ji.2 h), uI (n := cmpI d e) (by simp only [Wg])]
noncomputable def GV1 : Nat → Option Ctr := fun f => if f = 47 then some (xy) else if f = 48 then some (xo) else if f = 49 then some (yJ) else if f = 50 then some (Zy) else if f = 51 then some (ZO) else none
theorem Ke : ∀ g c, GV1 g = some c → ze Tryz.prog g c := okIf Zl (okIf Xs (okIf xU (okIf Qp (okIf Z1 (zn)))))
def HE (f : List Fx) (c : List Ch) : Heap := [.box [fxS f, chS c]]
def SCE1 (i : Nat) : KV := [(1, .ptr 0 0), (3, .int .i64 (i : Int)), (5, .undef), (34, .undef), (35, .undef), (36, .undef), (37, .undef), (40, .undef), (41, .undef), (42, .undef), (43, .undef), (46, .undef), (47, .undef), (48, .undef), (49, .undef), (50, .undef), (51, .undef), (52, .undef), (53, .undef), (54, .undef), (55, .undef), (56, .undef), (57, .undef), (58, .undef), (77, .undef), (78, .undef), (79, .undef), (80, .undef), (83, .undef), (84, .undef), (85, .undef), (86, .undef), (89, .undef), (90, .undef), (91, .undef), (92, .undef), (93, .undef), (94, .undef), (95, .undef), (96, .undef), (97, .undef), (98, .undef), (99, .undef), (100, .undef), (101, .undef)]
def SCE2 (i : Nat) : KV := [(1, .ptr 0 0), (3, .undef), (5, .int .i64 (i : Int)), (34, .undef), (35, .undef), (36, .undef), (37, .undef), (40, .undef), (41, .undef), (42, .undef), (43, .undef), (46, .undef), (47, .undef), (48, .undef), (49, .undef), (50, .undef), (51, .undef), (52, .undef), (53, .undef), (54, .undef), (55, .undef), (56, .undef), (57, .undef), (58, .undef), (77, .undef), (78, .undef), (79, .undef), (80, .undef), (83, .undef), (84, .undef), (85, .undef), (86, .undef), (89, .undef), (90, .undef), (91, .undef), (92, .undef), (93, .undef), (94, .undef), (95, .undef), (96, .undef), (97, .undef), (98, .undef), (99, .undef), (100, .undef), (101, .undef)]
theorem Qz {O : Nat → Prop} {w0 : World} {Q : AV × Heap → Prop} {Hs : Nat → KV → Heap → Prop} (f : List Fx) (c : List Ch) (hbig : ¬ (1000 < f.length ∨ 1000 < c.length)) (hs : ∀ j, j < c.length → qj (c.getD j Ch.nil)) (hf1 : f.all okF = true) (hf2 : ordB cmpF Fx.nil f = true)
  (hq : ∀ r, r = errE f c → Q (.int .i64 r, [])) (kv : KV) (h : Heap) (hle : LeK 0 Tryz.f46.ntmps kv h (SCE2 0) (HE f c)) :
  zc Tryz.prog Tryz.f46 O 0 w0 [] Hs (RetR yp 0 Q) (.code (.loop (lps (inside K46 0) 0).1) :: (lps (inside K46 0) 0).2) (mk Tryz.f46.ntmps kv h) := by
 refine zc.loop (ι := {i : Nat // i ≤ c.length ∧ (∀ j, j < i → okC (c.getD j Ch.nil) = true) ∧ ∀ j, j + 1 < i → cmpC (c.getD j Ch.nil) (c.getD (j + 1) Ch.nil) < 0}) (fun i => SCE2 i.1) (fun _ => HE f c) (fun i => c.length - i.1) ⟨0, Nat.zero_le _, fun j hj => by omega, fun j hj => by omega⟩ 0 hle ?_ (by kernel_rfl)
 rintro ⟨i, hil, hib, hio⟩
 refine zc.run hmix Ke [1, 3, 5, 34, 35, 36, 37, 40, 41, 42, 43, 46, 47, 48, 49, 50, 51, 52, 53, 54, 55, 56, 57, 58, 77, 78, 79, 80, 83, 84, 85, 86, 89, 90, 91, 92, 93, 94, 95, 96, 97, 98, 99, 100, 101] 400 (T := .ite (decide ((↑i : Int) < c.length)) (.side ((0 : Int) ≤ i ∧ (↑i : Int) < c.length) (.ex (fun (x : List UInt8) => eqL [AV.str (Ch.zb (List.getD c (Int.toNat (↑i : Int)) Ch.nil))] [AV.str x] ∧ x.length < 4611686018427387904) fun n => .all (fun (r : Bool) => r = zu n) fun n => .ex (fun (x : List UInt8) => (!n) = false → eqL [AV.str (Ch.name (List.getD c (Int.toNat (↑i : Int)) Ch.nil))] [AV.str x] ∧ x.length < 4611686018427387904) fun n_1 => .all (fun (x : Bool) => (!n) = false → x = zu n_1) fun n_2 => .ex (fun (x : Int) => (bif !n then true else !n_2) = false → eqL [AV.int .i64 (Ch.date (List.getD c (Int.toNat (↑i : Int)) Ch.nil))] [AV.int .i64 x] ∧ True) fun n_3 => .all (fun (x : Bool) => (bif !n then true else !n_2) = false → x = dayB n_3) fun n_4 => .side ((bif bif !n then true else !n_2 then true else !n_4) = false ∧ decide ((0 : Int) < i) = true → inR .i64 ((↑i : Int) - (1 : Int))) (.side ((bif bif !n then true else !n_2 then true else !n_4) = false ∧ decide ((0 : Int) < i) = true → (0 : Int) ≤ i - (1 : Int) ∧ (↑i : Int) - (1 : Int) < c.length) (.ex (fun (x : Ch × Ch) => (bif bif !n then true else !n_2 then true else !n_4) = false ∧ decide ((0 : Int) < i) = true → eqL [AV.agg [AV.str (Ch.zb (List.getD c (Int.toNat ((↑i : Int) - (1 : Int))) Ch.nil)), AV.str (Ch.name (List.getD c (Int.toNat ((↑i : Int) - (1 : Int))) Ch.nil)), AV.int .i64 (Ch.date (List.getD c (Int.toNat ((↑i : Int) - (1 : Int))) Ch.nil)), AV.bool (Ch.first (List.getD c (Int.toNat ((↑i : Int) - (1 : Int))) Ch.nil))], AV.agg [AV.str (Ch.zb (List.getD c (Int.toNat (↑i : Int)) Ch.nil)), AV.str (Ch.name (List.getD c (Int.toNat (↑i : Int)) Ch.nil)), AV.int .i64 (Ch.date (List.getD c (Int.toNat (↑i : Int)) Ch.nil)), AV.bool (Ch.first (List.getD c (Int.toNat (↑i : Int)) Ch.nil))]] [AV.agg [AV.str x.1.zb, AV.str x.1.name, AV.int .i64 x.1.date, AV.bool x.1.first], AV.agg [AV.str x.2.zb, AV.str x.2.name, AV.int .i64 x.2.date, AV.bool x.2.first]] ∧ True) fun n_5 => .all (fun (x : Bool) => (bif bif !n then true else !n_2 then true else !n_4) = false ∧ decide ((0 : Int) < i) = true → x = decide (cmpC n_5.1 n_5.2 < 0)) fun n_6 => .ite (bif bif bif !n then true else !n_2 then true else !n_4 then true else bif decide ((0 : Int) < i) then !n_6 else false) (.leaf (.ret [.int .i64 8] [.box [.sl f.length 3 (fxG f), .sl c.length 4 (chG c)], .box [.str (Ch.zb (List.getD c (Int.toNat (↑i : Int)) Ch.nil)), .str (Ch.name (List.getD c (Int.toNat (↑i : Int)) Ch.nil)), .int .i64 (Ch.date (List.getD c (Int.toNat (↑i : Int)) Ch.nil)), .bool (Ch.first (List.getD c (Int.toNat (↑i : Int)) Ch.nil))]])) (.side (inR .i64 ((↑i : Int) + (1 : Int))) (.leaf (.back 0 [(1, .ptr 0 0), (3, .undef), (5, .int .i64 ((↑i : Int) + (1 : Int))), (34, .undef), (35, .undef), (36, .undef), (37, .undef), (40, .undef), (41, .undef), (42, .undef), (43, .undef), (46, .undef), (47, .undef), (48, .undef), (49, .undef), (50, .undef), (51, .undef), (52, .undef), (53, .undef), (54, .undef), (55, .undef), (56, .undef), (57, .undef), (58, .undef), (77, .undef), (78, .undef), (79, .undef), (80, .undef), (83, .undef), (84, .undef), (85, .undef), (86, .undef), (89, .undef), (90, .undef), (91, .undef), (92, .undef), (93, .undef), (94, .undef), (95, .undef), (96, .undef), (97, .undef), (98, .undef), (99, .undef), (100, .undef), (101, .undef)] [.box [.sl f.length 3 (fxG f), .sl c.length 4 (chG c)], .box [.str (Ch.zb (List.getD c (Int.toNat (↑i : Int)) Ch.nil)), .str (Ch.name (List.getD c (Int.toNat (↑i : Int)) Ch.nil)), .int .i64 (Ch.date (List.getD c (Int.toNat (↑i : Int)) Ch.nil)), .bool (Ch.first (List.getD c (Int.toNat (↑i : Int)) Ch.nil))]]))))))) (.leaf (.ret [.int .i64 0] [.box [.sl f.length 3 (fxG f), .sl c.length 4 (chG c)]]))) (by kernel_rfl) ?_
 simp only [Tree.holds, zd, inR, lo, hi, Int.toNat_natCast]
 refine ⟨fun hlt => ?_, fun hge => ?_⟩
 ·have hlt : i < c.length := by have := of_decide_eq_true hlt; omega
  obtain ⟨hs1, hs2⟩ := hs i hlt
  have e : ((i : Int) - 1).toNat = i - 1 := by omega
  simp only [e]
  have hi0 : ∀ {b : Bool}, b = false ∧ decide (0 < (i : Int)) = true → 0 < i := fun h => by have := of_decide_eq_true h.2; omega
  refine ⟨by omega, fun _ => ⟨(c.getD i Ch.nil).zb, ⟨by simp, by omega⟩, ⟨_, rfl⟩, ?_⟩⟩
  rintro _ rfl
  refine ⟨(c.getD i Ch.nil).name, fun _ => ⟨by simp, by omega⟩, ⟨_, fun _ => rfl⟩, ?_⟩
  intro b1 g1
  refine ⟨(c.getD i Ch.nil).date, fun _ => ⟨by simp, trivial⟩, ⟨_, fun _ => rfl⟩, ?_⟩
  intro b2 g2
  refine ⟨fun h => by have := hi0 h; omega, fun _ => ⟨fun h => by have := hi0 h; omega, fun _ => ⟨(c.getD (i - 1) Ch.nil, c.getD i Ch.nil), fun _ => ⟨by simp, trivial⟩, ⟨_, fun _ => rfl⟩, ?_⟩⟩⟩
  intro b3 g3
  have hok : okC (c.getD i Ch.nil) = (zu (c.getD i Ch.nil).zb && zu (c.getD i Ch.nil).name && dayB (c.getD i Ch.nil).date) := rfl
  simp only at g3
  generalize zu (c.getD i Ch.nil).zb = p1 at *
  generalize zu (c.getD i Ch.nil).name = p2 at *
  generalize dayB (c.getD i Ch.nil).date = p3 at *
  have key : (bif bif !p1 then true else !b1 then true else !b2) = !okC (c.getD i Ch.nil) := by
   rw [hok]
   cases p1 with
   | false => rfl
   | true =>
    have g1 := g1 rfl
    subst g1
    cases b1 with
    | false => rfl
    | true => have g2 := g2 rfl; subst g2; rfl
  rw [key] at g3 ⊢
  refine ⟨fun h => ?_, fun h => ⟨by omega, fun _ => ?_⟩⟩
  ·refine RetR.scal (hq 8 (zae hbig ?_).symm) rfl (by simp [resV])
   cases hk : okC (c.getD i Ch.nil) with
   | false =>
    have := Xv hlt hk
    rw [this]; simp
   | true =>
    rw [hk] at h g3
    simp only [Bool.not_true, cond_false] at h
    cases h0 : decide (0 < (i : Int)) with
    | false => rw [h0] at h; cases h
    | true =>
     rw [h0] at h
     have hi1 : 0 < i := by have := of_decide_eq_true h0; omega
     have g3 := g3 ⟨rfl, h0⟩
     rw [g3] at h
     simp only [cond_true, Bool.not_eq_true', decide_eq_false_iff_not] at h
     have e2 : i - 1 + 1 = i := by omega
     have := xX (l := c) (c := cmpC) (z := Ch.nil) (j := i - 1) (by omega) (by rw [e2]; exact h)
     rw [this]; simp
  ·have hk : okC (c.getD i Ch.nil) = true := by
    cases hk : okC (c.getD i Ch.nil) with
    | true => rfl
    | false => rw [hk] at h; cases h
   rw [hk] at h g3
   rw [if_pos trivial]
   refine ⟨⟨i + 1, hlt, fun j hj => ?_, fun j hj => ?_⟩, by show c.length - (i + 1) < c.length - i; omega, by simp [SCE2], by simp [HE, fxS, chS, za], by kernel_rfl, Nat.zero_le _⟩
   ·rcases Nat.lt_or_ge j i with h1 | h1
    ·exact hib j h1
    ·have : j = i := by omega
     rw [this]; exact hk
   ·rcases Nat.lt_or_ge (j + 1) i with h1 | h1
    ·exact hio j h1
    ·have e2 : j + 1 = i := by omega
     have e3 : j = i - 1 := by omega
     have h0 : decide (0 < (i : Int)) = true := decide_eq_true (by omega)
     have g3 := g3 ⟨rfl, h0⟩
     simp only [Bool.not_true, cond_false, h0, cond_true] at h
     rw [e2, e3]
     exact of_decide_eq_true (by rw [← g3]; simpa using h)
 ·have hge : i = c.length := by have := of_decide_eq_false hge; omega
  subst hge
  refine RetR.scal (hq 0 (kh.2 ⟨hbig, hf1, zbd hib, hf2, kG hio⟩).symm) rfl (by simp [resV])
theorem VB : ze Tryz.prog 46 yp := by
 refine zh (fn := Tryz.f46) (c := Tryz.f46.body.getD .skip) rfl rfl rfl fun p hp O w0 Q hq => ?_
 obtain ⟨f, c⟩ := p
 obtain ⟨h1, h2, h3, h4⟩ := hp
 simp only at hq h1 h2 h3 h4
 refine zc.run hmix Ke [1, 3, 5, 34, 35, 36, 37, 40, 41, 42, 43, 46, 47, 48, 49, 50, 51, 52, 53, 54, 55, 56, 57, 58, 77, 78, 79, 80, 83, 84, 85, 86, 89, 90, 91, 92, 93, 94, 95, 96, 97, 98, 99, 100, 101] 400 (T := .ite (bif decide ((1000 : Int) < f.length) then true else decide ((1000 : Int) < c.length)) (.leaf (.ret [.int .i64 4] [.box [.sl f.length 3 (fxG f), .sl c.length 4 (chG c)]])) (.leaf (.loop (Prod.fst (lps K46 0)) (Prod.snd (lps K46 0)) [(1, .ptr 0 0), (3, .int .i64 0), (5, .undef), (34, .undef), (35, .undef), (36, .undef), (37, .undef), (40, .undef), (41, .undef), (42, .undef), (43, .undef), (46, .undef), (47, .undef), (48, .undef), (49, .undef), (50, .undef), (51, .undef), (52, .undef), (53, .undef), (54, .undef), (55, .undef), (56, .undef), (57, .undef), (58, .undef), (77, .undef), (78, .undef), (79, .undef), (80, .undef), (83, .undef), (84, .undef), (85, .undef), (86, .undef), (89, .undef), (90, .undef), (91, .undef), (92, .undef), (93, .undef), (94, .undef), (95, .undef), (96, .undef), (97, .undef), (98, .undef), (99, .undef), (100, .undef), (101, .undef)] [.box [.sl f.length 3 (fxG f), .sl c.length 4 (chG c)]]))) (by kernel_rfl) ?_
 simp only [Tree.holds, zd]
 refine ⟨fun h => ?_, fun h => ?_⟩
 ·have h : 1000 < f.length ∨ 1000 < c.length := by
   rw [Bool.cond_eq_ite] at h
   split at h
   ·rename_i h1; left; have := of_decide_eq_true h1; omega
   ·right; have := of_decide_eq_true h; omega
  exact RetR.scal (hq 4 (if_pos h).symm) rfl (by simp [resV])
 ·have hbig : ¬ (1000 < f.length ∨ 1000 < c.length) := by
   rw [Bool.cond_eq_ite] at h
   split at h
   ·cases h
   ·rename_i h1
    have h2 := of_decide_eq_false h
    rintro (h3 | h3)
    ·exact h1 (decide_eq_true (by omega))
    ·omega
  refine zc.loop (ι := {i : Nat // i ≤ f.length ∧ (∀ j, j < i → okF (f.getD j Fx.nil) = true) ∧ ∀ j, j + 1 < i → cmpF (f.getD j Fx.nil) (f.getD (j + 1) Fx.nil) < 0}) (fun i => SCE1 i.1) (fun _ => HE f c) (fun i => f.length - i.1) ⟨0, Nat.zero_le _, fun j hj => by omega, fun j hj => by omega⟩ 0 ?_ ?_ (by kernel_rfl)
  ·exact ⟨by simp [SCE1], by simp [HE, fxS, chS, za], by kernel_rfl, Nat.zero_le _⟩
  ·rintro ⟨i, hil, hib, hio⟩
   refine zc.run hmix Ke [1, 3, 5, 34, 35, 36, 37, 40, 41, 42, 43, 46, 47, 48, 49, 50, 51, 52, 53, 54, 55, 56, 57, 58, 77, 78, 79, 80, 83, 84, 85, 86, 89, 90, 91, 92, 93, 94, 95, 96, 97, 98, 99, 100, 101] 400 (T := .ite (decide ((↑i : Int) < f.length)) (.side ((0 : Int) ≤ i ∧ (↑i : Int) < f.length) (.ex (fun (x : List UInt8) => eqL [AV.str (Fx.name (List.getD f (Int.toNat (↑i : Int)) Fx.nil))] [AV.str x] ∧ x.length < 4611686018427387904) fun n => .all (fun (r : Bool) => r = zu n) fun n => .ex (fun (x : Int) => (!n) = false → eqL [AV.int .i64 (Fx.date (List.getD f (Int.toNat (↑i : Int)) Fx.nil))] [AV.int .i64 x] ∧ True) fun n_1 => .all (fun (x : Bool) => (!n) = false → x = dayB n_1) fun n_2 => .ex (fun (x : List UInt8) => (bif !n then true else !n_2) = false → eqL [AV.str (Fx.value (List.getD f (Int.toNat (↑i : Int)) Fx.nil))] [AV.str x] ∧ x.length < 1099511627776) fun n_3 => .all (fun (x : Int) => (bif !n then true else !n_2) = false → x = errR n_3) fun n_4 => .side ((bif bif !n then true else !n_2 then true else !decide (n_4 = 0)) = false ∧ decide ((0 : Int) < i) = true → inR .i64 ((↑i : Int) - (1 : Int))) (.side ((bif bif !n then true else !n_2 then true else !decide (n_4 = 0)) = false ∧ decide ((0 : Int) < i) = true → (0 : Int) ≤ i - (1 : Int) ∧ (↑i : Int) - (1 : Int) < f.length) (.ex (fun (x : Fx × Fx) => (bif bif !n then true else !n_2 then true else !decide (n_4 = 0)) = false ∧ decide ((0 : Int) < i) = true → eqL [AV.agg [AV.str (Fx.name (List.getD f (Int.toNat ((↑i : Int) - (1 : Int))) Fx.nil)), AV.int .i64 (Fx.date (List.getD f (Int.toNat ((↑i : Int) - (1 : Int))) Fx.nil)), AV.str (Fx.value (List.getD f (Int.toNat ((↑i : Int) - (1 : Int))) Fx.nil))], AV.agg [AV.str (Fx.name (List.getD f (Int.toNat (↑i : Int)) Fx.nil)), AV.int .i64 (Fx.date (List.getD f (Int.toNat (↑i : Int)) Fx.nil)), AV.str (Fx.value (List.getD f (Int.toNat (↑i : Int)) Fx.nil))]] [AV.agg [AV.str x.1.name, AV.int .i64 x.1.date, AV.str x.1.value], AV.agg [AV.str x.2.name, AV.int .i64 x.2.date, AV.str x.2.value]] ∧ True) fun n_5 => .all (fun (x : Bool) => (bif bif !n then true else !n_2 then true else !decide (n_4 = 0)) = false ∧ decide ((0 : Int) < i) = true → x = decide (cmpF n_5.1 n_5.2 < 0)) fun n_6 => .ite (bif bif bif !n then true else !n_2 then true else !decide (n_4 = 0) then true else bif decide ((0 : Int) < i) then !n_6 else false) (.leaf (.ret [.int .i64 8] [.box [.sl f.length 3 (fxG f), .sl c.length 4 (chG c)], .box [.str (Fx.name (List.getD f (Int.toNat (↑i : Int)) Fx.nil)), .int .i64 (Fx.date (List.getD f (Int.toNat (↑i : Int)) Fx.nil)), .str (Fx.value (List.getD f (Int.toNat (↑i : Int)) Fx.nil))]])) (.side (inR .i64 ((↑i : Int) + (1 : Int))) (.leaf (.back 0 [(1, .ptr 0 0), (3, .int .i64 ((↑i : Int) + (1 : Int))), (5, .undef), (34, .undef), (35, .undef), (36, .undef), (37, .undef), (40, .undef), (41, .undef), (42, .undef), (43, .undef), (46, .undef), (47, .undef), (48, .undef), (49, .undef), (50, .undef), (51, .undef), (52, .undef), (53, .undef), (54, .undef), (55, .undef), (56, .undef), (57, .undef), (58, .undef), (77, .undef), (78, .undef), (79, .undef), (80, .undef), (83, .undef), (84, .undef), (85, .undef), (86, .undef), (89, .undef), (90, .undef), (91, .undef), (92, .undef), (93, .undef), (94, .undef), (95, .undef), (96, .undef), (97, .undef), (98, .undef), (99, .undef), (100, .undef), (101, .undef)] [.box [.sl f.length 3 (fxG f), .sl c.length 4 (chG c)], .box [.str (Fx.name (List.getD f (Int.toNat (↑i : Int)) Fx.nil)), .int .i64 (Fx.date (List.getD f (Int.toNat (↑i : Int)) Fx.nil)), .str (Fx.value (List.getD f (Int.toNat (↑i : Int)) Fx.nil))]]))))))) (.leaf (.loop (Prod.fst (lps (inside K46 0) 0)) (Prod.snd (lps (inside K46 0) 0)) [(1, .ptr 0 0), (3, .int .i64 i), (5, .int .i64 0), (34, .undef), (35, .undef), (36, .undef), (37, .undef), (40, .undef), (41, .undef), (42, .undef), (43, .undef), (46, .undef), (47, .undef), (48, .undef), (49, .undef), (50, .undef), (51, .undef), (52, .undef), (53, .undef), (54, .undef), (55, .undef), (56, .undef), (57, .undef), (58, .undef), (77, .undef), (78, .undef), (79, .undef), (80, .undef), (83, .undef), (84, .undef), (85, .undef), (86, .undef), (89, .undef), (90, .undef), (91, .undef), (92, .undef), (93, .undef), (94, .undef), (95, .undef), (96, .undef), (97, .undef), (98, .undef), (99, .undef), (100, .undef), (101, .undef)] [.box [.sl f.length 3 (fxG f), .sl c.length 4 (chG c)]]))) (by kernel_rfl) ?_
   simp only [Tree.holds, zd, inR, lo, hi, Int.toNat_natCast]
   refine ⟨fun hlt => ?_, fun hge => ?_⟩
   ·have hlt : i < f.length := by have := of_decide_eq_true hlt; omega
    obtain ⟨hs1, hs2⟩ := h3 i hlt
    have e : ((i : Int) - 1).toNat = i - 1 := by omega
    simp only [e]
    have hi0 : ∀ {b : Bool}, b = false ∧ decide (0 < (i : Int)) = true → 0 < i := fun h => by have := of_decide_eq_true h.2; omega
    refine ⟨by omega, fun _ => ⟨(f.getD i Fx.nil).name, ⟨by simp, by omega⟩, ⟨_, rfl⟩, ?_⟩⟩
    rintro _ rfl
    refine ⟨(f.getD i Fx.nil).date, fun _ => ⟨by simp, trivial⟩, ⟨_, fun _ => rfl⟩, ?_⟩
    intro b1 g1
    refine ⟨(f.getD i Fx.nil).value, fun _ => ⟨by simp, by omega⟩, ⟨_, fun _ => rfl⟩, ?_⟩
    intro b2 g2
    refine ⟨fun h => by have := hi0 h; omega, fun _ => ⟨fun h => by have := hi0 h; omega, fun _ => ⟨(f.getD (i - 1) Fx.nil, f.getD i Fx.nil), fun _ => ⟨by simp, trivial⟩, ⟨_, fun _ => rfl⟩, ?_⟩⟩⟩
    intro b3 g3
    have hok : okF (f.getD i Fx.nil) = (zu (f.getD i Fx.nil).name && dayB (f.getD i Fx.nil).date && decide (errR (f.getD i Fx.nil).value = 0)) := rfl
    simp only at g3
    generalize zu (f.getD i Fx.nil).name = p1 at *
    generalize dayB (f.getD i Fx.nil).date = p2 at *
    generalize errR (f.getD i Fx.nil).value = p3 at *
    have key : (bif bif !p1 then true else !b1 then true else !decide (b2 = 0)) = !okF (f.getD i Fx.nil) := by
     rw [hok]
     cases p1 with
     | false => rfl
     | true =>
      have g1 := g1 rfl
      subst g1
      cases b1 with
      | false => rfl
      | true => have g2 := g2 rfl; subst g2; rfl
    rw [key] at g3 ⊢
    refine ⟨fun h => ?_, fun h => ⟨by omega, fun _ => ?_⟩⟩
    ·refine RetR.scal (hq 8 (zae hbig ?_).symm) rfl (by simp [resV])
     cases hk : okF (f.getD i Fx.nil) with
     | false =>
      have := Xv hlt hk
      rw [this]; simp
     | true =>
      rw [hk] at h g3
      simp only [Bool.not_true, cond_false] at h
      cases h0 : decide (0 < (i : Int)) with
      | false => rw [h0] at h; cases h
      | true =>
       rw [h0] at h
       have hi1 : 0 < i := by have := of_decide_eq_true h0; omega
       have g3 := g3 ⟨rfl, h0⟩
       rw [g3] at h
       simp only [cond_true, Bool.not_eq_true', decide_eq_false_iff_not] at h
       have e2 : i - 1 + 1 = i := by omega
       have := xX (l := f) (c := cmpF) (z := Fx.nil) (j := i - 1) (by omega) (by rw [e2]; exact h)
       rw [this]; simp
    ·have hk : okF (f.getD i Fx.nil) = true := by
      cases hk : okF (f.getD i Fx.nil) with
      | true => rfl
      | false => rw [hk] at h; cases h
     rw [hk] at h g3
     rw [if_pos trivial]
     refine ⟨⟨i + 1, hlt, fun j hj => ?_, fun j hj => ?_⟩, by show f.length - (i + 1) < f.length - i; omega, by simp [SCE1], by simp [HE, fxS, chS, za], by kernel_rfl, Nat.zero_le _⟩
     ·rcases Nat.lt_or_ge j i with h1 | h1
      ·exact hib j h1
      ·have : j = i := by omega
       rw [this]; exact hk
     ·rcases Nat.lt_or_ge (j + 1) i with h1 | h1
      ·exact hio j h1
      ·have e2 : j + 1 = i := by omega
       have e3 : j = i - 1 := by omega
       have h0 : decide (0 < (i : Int)) = true := decide_eq_true (by omega)
       have g3 := g3 ⟨rfl, h0⟩
       simp only [Bool.not_true, cond_false, h0, cond_true] at h
       rw [e2, e3]
       exact of_decide_eq_true (by rw [← g3]; simpa using h)
   ·have hge : i = f.length := by have := of_decide_eq_false hge; omega
    subst hge
    exact Qz f c hbig h4 (zbd hib) (kG hio) hq _ _ ⟨by simp [SCE2], by simp [HE, fxS, chS, za], by kernel_rfl, Nat.zero_le _⟩
end Go.Proofs.Tryz
end
