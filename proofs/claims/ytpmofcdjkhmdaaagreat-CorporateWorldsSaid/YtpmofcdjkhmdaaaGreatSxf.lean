/- Part 6 of the proof. -/
import Derived.Test.YtpmofcdjkhmdaaaGreatSxe
import Derived.Lib.Strings
import Derived.Lib.Slices
import Derived.Lib.Walk
import Derived.Lib.Bytealg
import Derived.Test.YtpmofcdjkhmdaaaGreatProg
set_option linter.unusedVariables false
set_option linter.unusedSimpArgs false
set_option linter.unusedSectionVars false

/- The reference's integers: texts. -/
section
set_option maxRecDepth 100000
open Go Go.Sx Go.Proofs Go.Nov
namespace Go.Proofs.Tryz
attribute [local simp] eqKV eqA eqA0 eqH eqB eqL eqL0
noncomputable def K89 : List Go.Sx.Item := [.code (Tryz.f89.body.getD .skip)]
noncomputable def K64 : List Go.Sx.Item := [.code (Tryz.f64.body.getD .skip)]
def zav : Ctr := ctrP true (fun l : List Nat => [nat6 l]) (fun l => Ten.dig l ∧ l.length < 2 ^ 62) (fun l r => r = decide (Ten.val l = 0)) (fun _ (r : Bool) => (.bool r, []))
noncomputable def GR1 : Nat → Option Ctr := fun f => if f = 94 then some (y5) else none
theorem zfp : ∀ g c, GR1 g = some c → zd Tryz.prog g c := okIf x6 (zp)
theorem Xu : zd Tryz.prog 87 zav := by
 refine ze (fn := Tryz.f87) (c := Tryz.f87.body.getD .skip) rfl rfl rfl fun l hp O w0 Q hq => ?_
 obtain ⟨hl, hll⟩ := hp
 replace hq := hq _ rfl
 refine zb.run hmix zfp [] 400 (T := .ex (fun (x : List Nat × List Nat) => eqL [AV.sl l.length 1 (natG .i64 l), AV.nils] [AV.sl x.1.length 1 (natG .i64 x.1), AV.sl x.2.length 1 (natG .i64 x.2)] ∧ Ten.dig x.1 ∧ Ten.dig x.2 ∧ x.1.length < 4611686018427387904 ∧ x.2.length < 4611686018427387904) fun n => .all (fun (r : Int) => r = cmpN (Ten.val n.1) (Ten.val n.2)) fun n => .leaf (.ret [.bool (decide (n = 0))] [])) (by kernel_rfl) ?_
 simp only [Tree.holds, zc]
 refine ⟨(l, []), ⟨by simp [za], hl, by simp [Ten.dig], hll, by simp⟩, ⟨_, rfl⟩, ?_⟩
 rintro _ rfl
 have : decide (cmpN (Ten.val l) (Ten.val []) = 0) = decide (Ten.val l = 0) := by
  have e : Ten.val [] = 0 := rfl
  rw [e]
  by_cases h : Ten.val l = 0
  ·rw [h]; rfl
  ·have : cmpN (Ten.val l) 0 = 1 := by unfold cmpN; rw [if_neg (by omega), if_pos (by omega)]
   rw [this, decide_eq_false h]; rfl
 rw [← this] at hq
 exact RetR.scal hq rfl (by simp [resV])
def uf : Ctr := ctrP true (fun p : List Nat × Bool => [nat6 p.1, .bool p.2]) (fun p => Ten.dig p.1 ∧ p.1.length < 2 ^ 40) (fun p r => r = qu p.2 (Ten.val p.1)) (fun _ r => (.str r, []))
def STx (l : List Nat) (neg : Bool) (n : Nat) : KV := [(0, nat6 l), (1, .bool neg), (5, .int .i64 (n : Int)), (6, .undef), (7, .undef), (13, .undef), (14, .undef), (15, .undef), (16, .undef), (17, .undef), (18, .undef)]
def STy (l : List Nat) (neg : Bool) (n i : Nat) (b : List Nat) : KV := [(0, nat6 l), (1, .bool neg), (5, .int .i64 (n : Int)), (6, .osl 1 1 0 b.length), (7, .int .i64 ((i : Int) - 1)), (13, .undef), (14, .undef), (15, .undef), (16, .undef), (17, .undef), (18, .undef)]
theorem QD {O : Nat → Prop} {w0 : World} {Q : AV × Heap → Prop} {Hs : Nat → KV → Heap → Prop} (l : List Nat) (neg : Bool) (n : Nat) (hl : Ten.dig l) (hll : l.length < 2 ^ 40) (hn : n ≤ l.length) (ht : n = Ten.tlen l) (h0 : 0 < n) (hq : Q (.str (qu neg (Ten.val l)), [])) (kv : KV) (h : Heap)
  (hle : LeK 0 Tryz.f89.ntmps kv h (STy l neg n n (tbL l neg n n)) [.dead, .arr (tbL l neg n n).length 1 (natG .u8 (tbL l neg n n))]) :
  zb Tryz.prog Tryz.f89 O 0 w0 [] Hs (RetR uf 0 Q) (.code (.loop (lps (inside K89 0) 0).1) :: (lps (inside K89 0) 0).2) (mk Tryz.f89.ntmps kv h) := by
 refine zb.loop (ι := {i : Nat // i ≤ n}) (fun i => STy l neg n i.1 (tbL l neg n i.1)) (fun i => [.dead, .arr (tbL l neg n i.1).length 1 (natG .u8 (tbL l neg n i.1))]) (fun i => i.1) ⟨n, Nat.le_refl _⟩ 0 hle ?_ (by kernel_rfl)
 rintro ⟨i, hin⟩
 obtain ⟨b, hb⟩ : ∃ b, tbL l neg n i = b := ⟨_, rfl⟩
 have hbl := zch l neg n i
 simp only [hb] at hbl ⊢
 refine zb.run hmix zq [0, 1, 5, 6, 7, 13, 14, 15, 16, 17, 18] 400 (T := .ite (decide ((0 : Int) ≤ i - (1 : Int))) (.side ((0 : Int) ≤ i - (1 : Int) ∧ (↑i : Int) - (1 : Int) < l.length) (.side (inR .i64 ((48 : Int) + (↑(List.getD l (Int.toNat ((↑i : Int) - (1 : Int))) 0) : Int))) (.side (inR .u8 ((48 : Int) + (↑(List.getD l (Int.toNat ((↑i : Int) - (1 : Int))) 0) : Int))) (.side (0 = 0 ∧ b.length ≤ b.length ∧ (b.length + 1) * 1 ≤ 140737488355328) (.side (inR .i64 ((↑i : Int) - (1 : Int) - (1 : Int))) (.leaf (.back 0 [(0, .sl l.length 1 (natG .i64 l)), (1, .bool neg), (5, .int .i64 n), (6, .osl 1 1 0 (b.length + 1)), (7, .int .i64 ((↑i : Int) - (1 : Int) - (1 : Int))), (13, .undef), (14, .undef), (15, .undef), (16, .undef), (17, .undef), (18, .undef)] [.dead, .arr (b.length + 1) 1 (appG b.length (natG .u8 b) (zg (zf 1 [.int .u8 ((48 : Int) + (↑(List.getD l (Int.toNat ((↑i : Int) - (1 : Int))) 0) : Int))]) 0)), .arr 1 1 (zf 1 [.int .u8 ((48 : Int) + (↑(List.getD l (Int.toNat ((↑i : Int) - (1 : Int))) 0) : Int))])]))))))) (.side (∀ (j : Nat), j < b.length → ∃ (b_1 : UInt8), AV.int .u8 (↑(List.getD b (0 + j) 0) : Int) = AV.int .u8 (↑(UInt8.toNat b_1) : Int)) (.leaf (.ret [.str (wi b.length (zg (natG .u8 b) 0))] [.dead, .arr b.length 1 (natG .u8 b)])))) (by kernel_rfl) ?_
 simp only [Tree.holds, zc, inR, lo, hi, Int.toNat_natCast]
 refine ⟨fun hge => ?_, fun hlt => ?_⟩
 ·have hi0 : 0 < i := by have := of_decide_eq_true hge; omega
  have e : ((i : Int) - 1).toNat = i - 1 := by omega
  have hd : l.getD (i - 1) 0 < 10 := Ten.zz hl (i - 1)
  have hst := U8 (l := l) (neg := neg) hi0 hin hn
  rw [hb] at hst
  rw [e]
  obtain ⟨x, hx⟩ : ∃ x, l.getD (i - 1) 0 = x := ⟨_, rfl⟩
  simp only [hx] at hd hst ⊢
  iterate 3 refine ⟨by omega, fun _ => ?_⟩
  refine ⟨⟨trivial, Nat.le_refl _, by omega⟩, fun _ => ⟨by omega, fun _ => ?_⟩⟩
  rw [if_pos trivial]
  refine ⟨⟨i - 1, by omega⟩, by show i - 1 < i; omega, ?_, ?_, by kernel_rfl, Nat.zero_le _⟩
  ·simp only [← hst]
   simp [STy, natS, za]; omega
  ·simp only [← hst]
   exact ⟨trivial, qw (d := 48 + x) (by omega)⟩
 ·have hi0 : i = 0 := by have := of_decide_eq_false hlt; omega
  subst hi0
  refine ⟨fun j hj => ⟨UInt8.ofNat (b.getD (0 + j) 0), ?_⟩, fun _ => ?_⟩
  ·have := zg6 hl neg n 0 (0 + j)
   rw [hb] at this
   have e2 : (UInt8.ofNat (b.getD (0 + j) 0)).toNat = b.getD (0 + j) 0 := by rw [UInt8.toNat_ofNat']; exact Nat.mod_eq_of_lt this
   rw [e2]
  ·rw [xA _ _ _ (Nat.le_refl _), List.take_length, ← hb, Xb hl ht h0]
   exact RetR.scal hq rfl (by simp [resV])
theorem yb : zd Tryz.prog 89 uf := by
 refine ze (fn := Tryz.f89) (c := Tryz.f89.body.getD .skip) rfl rfl rfl fun p hp O w0 Q hq => ?_
 obtain ⟨l, neg⟩ := p
 obtain ⟨hl, hll⟩ := hp
 replace hq := hq _ rfl
 simp only at hq hl hll
 refine zb.run hmix zq [0, 1, 5, 6, 7, 13, 14, 15, 16, 17, 18] 400 (T := .leaf (.loop (Prod.fst (lps K89 0)) (Prod.snd (lps K89 0)) [(0, .sl l.length 1 (natG .i64 l)), (1, .bool neg), (5, .int .i64 l.length), (6, .undef), (7, .undef), (13, .undef), (14, .undef), (15, .undef), (16, .undef), (17, .undef), (18, .undef)] [])) (by kernel_rfl) ?_
 simp only [Tree.holds, zc]
 refine zb.loop (ι := {n : Nat // n ≤ l.length ∧ Ten.tlen l ≤ n}) (fun n => STx l neg n.1) (fun _ => []) (fun n => n.1) ⟨l.length, Nat.le_refl _, Ten.zP l⟩ 0 ?_ ?_ (by kernel_rfl)
 ·exact ⟨by simp [STx, natS, za], by simp, by kernel_rfl, Nat.zero_le _⟩
 ·rintro ⟨n, hn, ht⟩
  refine zb.run hmix zq [0, 1, 5, 6, 7, 13, 14, 15, 16, 17, 18] 400 (T := .side (decide ((0 : Int) < n) = true → inR .i64 ((↑n : Int) - (1 : Int))) (.side (decide ((0 : Int) < n) = true → (0 : Int) ≤ n - (1 : Int) ∧ (↑n : Int) - (1 : Int) < l.length) (.ite (bif decide ((0 : Int) < n) then decide ((↑(List.getD l (Int.toNat ((↑n : Int) - (1 : Int))) 0) : Int) = 0) else false) (.side (inR .i64 ((↑n : Int) - (1 : Int))) (.leaf (.back 0 [(0, .sl l.length 1 (natG .i64 l)), (1, .bool neg), (5, .int .i64 ((↑n : Int) - (1 : Int))), (6, .undef), (7, .undef), (13, .undef), (14, .undef), (15, .undef), (16, .undef), (17, .undef), (18, .undef)] []))) (.ite (decide ((↑n : Int) = 0)) (.leaf (.ret [.str (Array.toList #[(48 : UInt8)])] [])) (.ite neg (.side (1 ≤ 140737488355328) (.side (inR .i64 ((↑n : Int) - (1 : Int))) (.leaf (.loop (Prod.fst (lps (inside K89 0) 0)) (Prod.snd (lps (inside K89 0) 0)) [(0, .sl l.length 1 (natG .i64 l)), (1, .bool neg), (5, .int .i64 n), (6, .osl 1 1 0 1), (7, .int .i64 ((↑n : Int) - (1 : Int))), (13, .undef), (14, .undef), (15, .undef), (16, .undef), (17, .undef), (18, .undef)] [.arr 1 1 (zf 1 [.int .u8 45]), .arr 1 1 (zg (zf 1 [.int .u8 45]) 0)])))) (.side (inR .i64 ((↑n : Int) - (1 : Int))) (.leaf (.loop (Prod.fst (lps (inside K89 0) 0)) (Prod.snd (lps (inside K89 0) 0)) [(0, .sl l.length 1 (natG .i64 l)), (1, .bool neg), (5, .int .i64 n), (6, .nils), (7, .int .i64 ((↑n : Int) - (1 : Int))), (13, .undef), (14, .undef), (15, .undef), (16, .undef), (17, .undef), (18, .undef)] [])))))))) (by kernel_rfl) ?_
  simp only [Tree.holds, zc, inR, lo, hi, Int.toNat_natCast]
  refine ⟨by omega, fun _ => ⟨fun h => by have := of_decide_eq_true h; omega, fun _ => ⟨fun hz => ?_, fun hz => ?_⟩⟩⟩
  ·have hn0 : 0 < n := by
    rcases Nat.eq_zero_or_pos n with h | h
    ·subst h; simp at hz
    ·exact h
   have e : ((n : Int) - 1).toNat = n - 1 := by omega
   have hz : l.getD (n - 1) 0 = 0 := by
    rw [decide_eq_true (by omega), e] at hz
    have := of_decide_eq_true hz
    omega
   refine ⟨by omega, fun _ => ?_⟩
   rw [if_pos trivial]
   refine ⟨⟨n - 1, by omega, ?_⟩, by show n - 1 < n; omega, by simp [STx, natS, za]; omega, by simp, by kernel_rfl, Nat.zero_le _⟩
   refine Nat.le_of_not_lt fun hlt => ?_
   have hnt : n = Ten.tlen l := by omega
   subst hnt
   exact Ten.qe l hn0 hz
  ·have e : ((n : Int) - 1).toNat = n - 1 := by omega
   have hnt : n = Ten.tlen l := by
    rcases Nat.eq_zero_or_pos n with h | h
    ·omega
    ·refine Nat.le_antisymm (Nat.le_of_not_lt fun hlt => ?_) ht
     have := Ten.qH l (n - 1) (by omega)
     rw [decide_eq_true (by omega), e, this] at hz
     simp at hz
   refine ⟨fun h0 => ?_, fun h0 => ?_⟩
   ·have h0 : n = 0 := by have := of_decide_eq_true h0; omega
    rw [YL (by omega)] at hq
    exact RetR.scal hq rfl (by simp [resV])
   ·have h0 : 0 < n := by have := of_decide_eq_false h0; omega
    refine ⟨fun hneg => ⟨by omega, fun _ => ⟨by omega, fun _ => ?_⟩⟩, fun hneg => ⟨by omega, fun _ => ?_⟩⟩
    ·subst hneg
     refine QD l true n hl hll hn hnt h0 hq _ _ ⟨?_, ?_, by kernel_rfl, Nat.zero_le _⟩
     ·simp [STy, natS, za, uK]
     ·simp only [uK, if_true, List.length_singleton]
      refine ⟨trivial, ⟨rfl, rfl, ?_⟩, trivial⟩
      intro j o hj ho
      simpa [zg] using vZ .u8 45 j o hj ho
    ·subst hneg
     refine zb.void (by kernel_rfl) ?_
     refine zb.bear 6 1 (natG .u8 []) rfl (by decide) (by kernel_rfl) ?_
     refine QD l false n hl hll hn hnt h0 hq _ _ ⟨?_, ?_, by kernel_rfl, Nat.zero_le _⟩
     ·simp [STy, natS, za, uK, kq]
     ·simp [uK, za]
def vp : Ctr := ctrP true (fun s : List UInt8 => [.str s]) (fun s => s.length < 2 ^ 40) (fun s r => r = digR s) (fun _ r => (.tup [nat6 r.1, .bool r.2.1, .bool r.2.2], []))
def SDi (b : List UInt8) (neg : Bool) (i : Nat) (o : List Nat) : KV := [(5, .str b), (6, .bool neg), (7, .osl 0 1 0 o.length), (8, .int .i64 ((i : Int) - 1)), (49, .undef), (50, .undef), (51, .undef), (52, .undef)]
theorem u7 {O : Nat → Prop} {w0 : World} {Q : AV × Heap → Prop} {Hs : Nat → KV → Heap → Prop} (b : List UInt8) (neg : Bool) (hbl : b.length < 2 ^ 40) (hb0 : b ≠ []) (hf : b.all isD = true → qb neg b = true)
  (hq : Q (.tup [nat6 (if qb neg b then (dg b, neg, true) else ([], false, false)).1, .bool (if qb neg b then (dg b, neg, true) else ([], false, false)).2.1, .bool (if qb neg b then (dg b, neg, true) else ([], false, false)).2.2], [])) :
  zb Tryz.prog Tryz.f64 O 0 w0 [] Hs (RetR vp 0 Q) (.code (.loop (lps K64 0).1) :: (lps K64 0).2) (mk Tryz.f64.ntmps [(5, .str b), (6, .bool neg), (7, .nils), (8, .int .i64 ((b.length : Int) - 1)), (49, .undef), (50, .undef), (51, .undef), (52, .undef)] []) := by
 refine zb.bear 7 1 (natG .i64 []) rfl (by decide) (by kernel_rfl) ?_
 refine zb.loop (ι := {i : Nat // i ≤ b.length ∧ ∀ j, i ≤ j → j < b.length → isD (b.getD j 0) = true}) (fun i => SDi b neg i.1 (dg (b.drop i.1))) (fun i => [.arr (dg (b.drop i.1)).length 1 (natG .i64 (dg (b.drop i.1)))]) (fun i => i.1) ⟨b.length, Nat.le_refl _, fun j h1 h2 => by omega⟩ 0 ?_ ?_ (by kernel_rfl)
 ·exact ⟨by simp [SDi, kq, dg], by simp [dg, za], by kernel_rfl, Nat.zero_le _⟩
 ·rintro ⟨i, hil, hid⟩
  have hdl : (dg (b.drop i)).length = b.length - i := by rw [vY, List.length_drop]
  obtain ⟨o, ho⟩ : ∃ o, dg (b.drop i) = o := ⟨_, rfl⟩
  simp only [ho] at hdl ⊢
  refine zb.run hmix zq [5, 6, 7, 8, 49, 50, 51, 52] 400 (T := .ite (decide ((0 : Int) ≤ i - (1 : Int))) (.side ((0 : Int) ≤ i - (1 : Int) ∧ (↑i : Int) - (1 : Int) < b.length) (.side (decide ((↑(UInt8.toNat (List.getD b (Int.toNat ((↑i : Int) - (1 : Int))) (0 : UInt8))) : Int) < 48) = false → (0 : Int) ≤ i - (1 : Int) ∧ (↑i : Int) - (1 : Int) < b.length) (.ite (bif decide ((↑(UInt8.toNat (List.getD b (Int.toNat ((↑i : Int) - (1 : Int))) (0 : UInt8))) : Int) < 48) then true else decide ((57 : Int) < (↑(UInt8.toNat (List.getD b (Int.toNat ((↑i : Int) - (1 : Int))) (0 : UInt8))) : Int))) (.leaf (.ret [.nils, .bool false, .bool false] [.arr o.length 1 (natG .i64 o)])) (.side ((0 : Int) ≤ i - (1 : Int) ∧ (↑i : Int) - (1 : Int) < b.length) (.side (inR .u8 ((↑(UInt8.toNat (List.getD b (Int.toNat ((↑i : Int) - (1 : Int))) (0 : UInt8))) : Int) - (48 : Int))) (.side (inR .i64 ((↑(UInt8.toNat (List.getD b (Int.toNat ((↑i : Int) - (1 : Int))) (0 : UInt8))) : Int) - (48 : Int))) (.side (0 = 0 ∧ o.length ≤ o.length ∧ (o.length + 1) * 8 ≤ 140737488355328) (.side (inR .i64 ((↑i : Int) - (1 : Int) - (1 : Int))) (.leaf (.back 0 [(5, .str b), (6, .bool neg), (7, .osl 0 1 0 (o.length + 1)), (8, .int .i64 ((↑i : Int) - (1 : Int) - (1 : Int))), (49, .undef), (50, .undef), (51, .undef), (52, .undef)] [.arr (o.length + 1) 1 (appG o.length (natG .i64 o) (zg (zf 1 [.int .i64 ((↑(UInt8.toNat (List.getD b (Int.toNat ((↑i : Int) - (1 : Int))) (0 : UInt8))) : Int) - (48 : Int))]) 0)), .arr 1 1 (zf 1 [.int .i64 ((↑(UInt8.toNat (List.getD b (Int.toNat ((↑i : Int) - (1 : Int))) (0 : UInt8))) : Int) - (48 : Int))])])))))))))) (.leaf (.ret [.osl 0 1 0 o.length, .bool neg, .bool true] [.arr o.length 1 (natG .i64 o)]))) (by kernel_rfl) ?_
  simp only [Tree.holds, zc, inR, lo, hi, Int.toNat_natCast, Bool.cond_eq_ite]
  refine ⟨fun hge => ?_, fun hlt => ?_⟩
  ·have hi0 : 0 < i := by have := of_decide_eq_true hge; omega
   have e : ((i : Int) - 1).toNat = i - 1 := by omega
   have hst := zdf hi0 hil
   rw [ho] at hst
   simp only [e]
   refine ⟨by omega, fun _ => ⟨fun _ => by omega, fun _ => ⟨fun hbad => ?_, fun hgood => ⟨by omega, fun _ => ?_⟩⟩⟩⟩
   ·rw [kC] at hbad
    have hnf : qb neg b = false := by
     have : b.all isD = false := by
      rw [List.all_eq_false]
      have hib : i - 1 < b.length := by omega
      refine ⟨b.getD (i - 1) 0, by simp [List.getD, hib], by simpa using hbad⟩
     simp [qb, this]
    rw [hnf] at hq
    refine RetR.out0 hq (fun _ => ?_) ?_
    ·simp [resV, new2, new1, new0, zR]
    ·simp [resV, exp2, exp1, exp0, ren0, eqA2, eqL1, eqA, eqA0, natS]
   ·rw [kC] at hgood
    have hd : isD (b.getD (i - 1) 0) = true := by simpa using hgood
    have hc : 48 ≤ (b.getD (i - 1) 0).toNat ∧ (b.getD (i - 1) 0).toNat ≤ 57 := by simpa [isD] using hd
    obtain ⟨c, hcc⟩ : ∃ c, (b.getD (i - 1) 0).toNat = c := ⟨_, rfl⟩
    simp only [hcc] at hc hst ⊢
    iterate 2 refine ⟨by omega, fun _ => ?_⟩
    refine ⟨⟨trivial, Nat.le_refl _, by omega⟩, fun _ => ⟨by omega, fun _ => ?_⟩⟩
    rw [if_pos trivial]
    refine ⟨⟨i - 1, by omega, fun j h1 h2 => ?_⟩, by show i - 1 < i; omega, ?_, ?_, by kernel_rfl, Nat.zero_le _⟩
    ·rcases Nat.lt_or_ge j i with h | h
     ·have : j = i - 1 := by omega
      subst this; exact hd
     ·exact hid j h h2
    ·simp only [← hst]
     simp [SDi]; omega
    ·simp only [← hst]
     exact qw (d := c - 48) (by omega)
  ·have hi0 : i = 0 := by have := of_decide_eq_false hlt; omega
   subst hi0
   have hall : b.all isD = true := by
    rw [List.all_eq_true]
    intro c hc
    obtain ⟨j, hj, rfl⟩ := List.getElem_of_mem hc
    have := hid j (Nat.zero_le _) hj
    simpa [List.getD, hj] using this
   rw [hf hall] at hq
   have ho : dg b = o := ho
   simp only [if_true, ho] at hq
   have hb : ([.arr o.length 1 (natG .i64 o)] : Heap)[0]? = some (.arr o.length 1 (natG .i64 o)) := rfl
   refine RetR.out0 hq (fun _ => ?_) ?_
   ·simp only [resV, new2, List.mem_cons, List.not_mem_nil, or_false, forall_eq_or_imp, forall_eq]
    exact ⟨wU hb (by omega) fun j o _ _ => V0 _ _ _ _ _, rfl, rfl⟩
   ·simp only [resV, exp2, List.map_cons, List.map_nil, exp1]
    rw [jv hb (by omega), Xe]
    simp [eqA2, eqL1, eqA, eqA0, natS, za, exp0, ren0]
theorem vJ : zd Tryz.prog 64 vp := by
 refine ze (fn := Tryz.f64) (c := Tryz.f64.body.getD .skip) rfl rfl rfl fun s hs O w0 Q hq => ?_
 replace hq := hq _ rfl
 refine zb.run hmix zq [5, 6, 7, 8, 49, 50, 51, 52] 400 (T := .side (decide ((0 : Int) < s.length) = true → (0 : Int) ≤ 0 ∧ (0 : Int) < s.length) (.ite (bif decide ((0 : Int) < s.length) then decide ((↑(UInt8.toNat (List.getD s 0 (0 : UInt8))) : Int) = 45) else false) (.side ((0 : Int) ≤ 1 ∧ (1 : Int) ≤ s.length) (.side (decide ((↑(List.length (List.drop 1 (List.take s.length s))) : Int) = 0) = false → (0 : Int) ≤ 0 ∧ (0 : Int) < (↑(List.length (List.drop 1 (List.take s.length s))) : Int)) (.ite (bif decide ((↑(List.length (List.drop 1 (List.take s.length s))) : Int) = 0) then true else bif decide ((↑(UInt8.toNat (List.getD (List.drop 1 (List.take s.length s)) 0 (0 : UInt8))) : Int) = 48) then bif decide ((1 : Int) < (↑(List.length (List.drop 1 (List.take s.length s))) : Int)) then true else bif decide ((0 : Int) < s.length) then decide ((↑(UInt8.toNat (List.getD s 0 (0 : UInt8))) : Int) = 45) else false else false) (.leaf (.ret [.nils, .bool false, .bool false] [])) (.side (inR .i64 ((↑(List.length (List.drop 1 (List.take s.length s))) : Int) - (1 : Int))) (.leaf (.loop (Prod.fst (lps K64 0)) (Prod.snd (lps K64 0)) [(5, .str (List.drop 1 (List.take s.length s))), (6, .bool (bif decide ((0 : Int) < s.length) then decide ((↑(UInt8.toNat (List.getD s 0 (0 : UInt8))) : Int) = 45) else false)), (7, .nils), (8, .int .i64 ((↑(List.length (List.drop 1 (List.take s.length s))) : Int) - (1 : Int))), (49, .undef), (50, .undef), (51, .undef), (52, .undef)] [])))))) (.side (decide ((↑s.length : Int) = 0) = false → (0 : Int) ≤ 0 ∧ (0 : Int) < s.length) (.ite (bif decide ((↑s.length : Int) = 0) then true else bif decide ((↑(UInt8.toNat (List.getD s 0 (0 : UInt8))) : Int) = 48) then bif decide ((1 : Int) < s.length) then true else bif decide ((0 : Int) < s.length) then decide ((↑(UInt8.toNat (List.getD s 0 (0 : UInt8))) : Int) = 45) else false else false) (.leaf (.ret [.nils, .bool false, .bool false] [])) (.side (inR .i64 ((↑s.length : Int) - (1 : Int))) (.leaf (.loop (Prod.fst (lps K64 0)) (Prod.snd (lps K64 0)) [(5, .str s), (6, .bool (bif decide ((0 : Int) < s.length) then decide ((↑(UInt8.toNat (List.getD s 0 (0 : UInt8))) : Int) = 45) else false)), (7, .nils), (8, .int .i64 ((↑s.length : Int) - (1 : Int))), (49, .undef), (50, .undef), (51, .undef), (52, .undef)] []))))))) (by kernel_rfl) ?_
 have bad : ∀ h, digR s = ([], false, false) → RetR vp 0 Q [.nils, .bool false, .bool false] h := by
  intro h he
  rw [he] at hq
  refine RetR.out0 hq (fun _ => ?_) ?_
  ·simp [resV, new2, new1, new0, zR]
  ·simp [resV, exp2, exp1, exp0, ren0, eqA2, eqL1, eqA, eqA0, natS]
 have core : ∀ neg b, parse s = (neg, b) → (if decide ((b.length : Int) = 0) = true then true else if decide (((b.getD 0 0).toNat : Int) = 48) = true then if decide (1 < (b.length : Int)) = true then true else neg else false) = true → digR s = ([], false, false) := by
  intro neg b hp h
  have : qb neg b = false := by
   by_cases hb : b = []
   ·subst hb; simp [qb]
   ·have hl : ¬ b.length = 0 := by simpa using hb
    rw [if_neg (by simpa using hl)] at h
    split at h
    ·rename_i h48
     have h48 : b.getD 0 0 = 48 := yg (of_decide_eq_true h48)
     split at h
     ·rename_i h1; exact wE h48 (by have := of_decide_eq_true h1; omega)
     ·rename_i h1
      subst h
      have : b = [48] := by
       cases b with
       | nil => exact absurd rfl hb
       | cons c b =>
        have hl1 : b = [] := by
         refine List.length_eq_zero_iff.1 ?_
         have : ¬ 1 < (((c :: b).length : Nat) : Int) := fun h => h1 (decide_eq_true h)
         simp only [List.length_cons] at this; omega
        subst hl1
        simp at h48; rw [h48]
      subst this; rfl
    ·cases h
  simp [digR, hp, this]
 have good : ∀ neg b, parse s = (neg, b) → (if decide ((b.length : Int) = 0) = true then true else if decide (((b.getD 0 0).toNat : Int) = 48) = true then if decide (1 < (b.length : Int)) = true then true else neg else false) = false → b ≠ [] ∧ (b.all isD = true → qb neg b = true) := by
  intro neg b hp h
  have hb : b ≠ [] := by rintro rfl; simp at h
  refine ⟨hb, fun hall => ?_⟩
  have hl : ¬ b.length = 0 := by simpa using hb
  rw [if_neg (by simpa using hl)] at h
  simp only [qb, hall, hb, Bool.and_true]
  simp only [decide_false, Bool.not_false, Bool.true_and]
  split at h
  ·rename_i h48
   split at h
   ·cases h
   ·rename_i h1
    subst h
    have : (decide (1 < b.length)) = false := decide_eq_false fun h => h1 (decide_eq_true (by omega))
    simp only [this, Bool.false_and, Bool.and_false, Bool.not_false, Bool.and_self]
  ·rename_i h48
   have e1 : decide (b.getD 0 0 = 48) = false := by
    refine decide_eq_false fun h => h48 ?_
    rw [h]; rfl
   have e2 : decide (b = [48]) = false := by
    refine decide_eq_false fun h => h48 ?_
    rw [h]; rfl
   simp only [e1, e2, Bool.false_and, Bool.and_false, Bool.not_false, Bool.and_self]
 simp only [Tree.holds, zc, inR, lo, hi, Bool.cond_eq_ite]
 refine ⟨fun h => by have := of_decide_eq_true h; omega, fun _ => ⟨fun hneg => ?_, fun hneg => ?_⟩⟩
 ·simp only [hneg]
  obtain ⟨b, rfl⟩ : ∃ b, s = 45 :: b := by
   cases s with
   | nil => simp at hneg
   | cons c b =>
    have : c = 45 := by
     have : ((c.toNat : Nat) : Int) = 45 := by simpa using hneg
     exact yg this
    exact ⟨b, by rw [this]⟩
  have hd : List.drop 1 (List.take (45 :: b).length (45 :: b)) = b := by simp
  rw [hd]
  have hp : parse (45 :: b) = (true, b) := rfl
  refine ⟨by simp; omega, fun _ => ⟨fun h => by have := of_decide_eq_false h; omega, fun _ => ⟨fun h => bad _ (core true b hp h), fun h => ⟨by simp at hs; omega, fun _ => ?_⟩⟩⟩⟩
  obtain ⟨g1, g2⟩ := good true b hp h
  refine u7 b true (by simp at hs; omega) g1 g2 ?_
  simpa only [digR, hp] using hq
 ·simp only [hneg]
  have hp : parse s = (false, s) := by
   cases s with
   | nil => rfl
   | cons c b =>
    have : c ≠ 45 := by
     rintro rfl; simp at hneg
    simp [parse, this]
  refine ⟨fun h => by have := of_decide_eq_false h; omega, fun _ => ⟨fun h => bad _ (core false s hp h), fun h => ⟨by omega, fun _ => ?_⟩⟩⟩
  obtain ⟨g1, g2⟩ := good false s hp h
  refine u7 s false hs g1 g2 ?_
  simpa only [digR, hp] using hq
end Go.Proofs.Tryz
end

/- The reference's integers: dividing. -/
section
set_option maxRecDepth 100000
open Go Go.Sx Go.Proofs Go.Nov
namespace Go.Proofs.Tryz
attribute [local simp] eqKV eqA eqA0 eqH eqB eqL eqL0
noncomputable def K88 : List Go.Sx.Item := [.code (Tryz.f88.body.getD .skip)]
noncomputable def GR2 : Nat → Option Ctr := fun f => if f = 64 then some (vp) else none
theorem zff : ∀ g c, GR2 g = some c → zd Tryz.prog g c := okIf vJ (zp)
def Jq : Ctr := ctrP true (fun s : List UInt8 => [.str s]) (fun s => s.length < 2 ^ 40) (fun s r => r = errI s) (fun _ (r : Int) => (.int .i64 r, []))
theorem QL : zd Tryz.prog 105 Jq := by
 refine ze (fn := Tryz.f105) (c := Tryz.f105.body.getD .skip) rfl rfl rfl fun s hs O w0 Q hq => ?_
 replace hq := hq _ rfl
 refine zb.run hmix zff [] 400 (T := .ex (fun (x : List UInt8) => eqL [AV.str s] [AV.str x] ∧ x.length < 1099511627776) fun n => .all (fun (r : List Nat × Bool × Bool) => r = digR n) fun n => .ite (!Prod.snd n.2) (.leaf (.ret [.int .i64 12] [])) (.ite (decide ((1000 : Int) < n.1.length)) (.leaf (.ret [.int .i64 14] [])) (.leaf (.ret [.int .i64 0] [])))) (by kernel_rfl) ?_
 simp only [Tree.holds, zc]
 refine ⟨s, ⟨by simp, hs⟩, ⟨_, rfl⟩, ?_⟩
 rintro _ rfl
 unfold errI at hq
 unfold digR
 cases hf : qb (parse s).1 (parse s).2 with
 | false =>
  rw [hf] at hq
  exact ⟨fun _ => RetR.scal hq rfl (by simp [resV]), fun h => by simp at h⟩
 | true =>
  rw [hf, if_pos rfl] at hq
  refine ⟨fun h => by simp at h, fun _ => ⟨fun h => ?_, fun h => ?_⟩⟩
  ·have h : 1000 < (parse s).2.length := by simp [vY] at h; omega
   rw [if_pos h] at hq
   exact RetR.scal hq rfl (by simp [resV])
  ·have h : ¬ 1000 < (parse s).2.length := by simp [vY] at h; omega
   rw [if_neg h] at hq
   exact RetR.scal hq rfl (by simp [resV])
noncomputable def GR3 : Nat → Option Ctr := fun f => if f = 105 then some (Jq) else none
theorem zfw : ∀ g c, GR3 g = some c → zd Tryz.prog g c := okIf QL (zp)
def Xh : Ctr := ctrP true (fun p : List UInt8 × List UInt8 => [.str p.1, .str p.2]) (fun p => p.1.length < 2 ^ 40 ∧ p.2.length < 2 ^ 40) (fun p r => r = zo p.1 p.2) (fun _ (r : Int) => (.int .i64 r, []))
theorem Jp : zd Tryz.prog 86 Xh := by
 refine ze (fn := Tryz.f86) (c := Tryz.f86.body.getD .skip) rfl rfl rfl fun p hp O w0 Q hq => ?_
 obtain ⟨s, t⟩ := p
 obtain ⟨hs, ht⟩ := hp
 replace hq := hq _ rfl
 simp only at hs ht hq
 refine zb.run hmix zfw [] 400 (T := .ex (fun (x : List UInt8) => eqL [AV.str s] [AV.str x] ∧ x.length < 1099511627776) fun n => .all (fun (r : Int) => r = errI n) fun n => .ite (!decide (n = 0)) (.ex (fun (x : List UInt8) => eqL [AV.str s] [AV.str x] ∧ x.length < 1099511627776) fun n => .all (fun (r : Int) => r = errI n) fun n => .leaf (.ret [.int .i64 n] [])) (.ex (fun (x : List UInt8) => eqL [AV.str t] [AV.str x] ∧ x.length < 1099511627776) fun n => .all (fun (r : Int) => r = errI n) fun n => .leaf (.ret [.int .i64 n] []))) (by kernel_rfl) ?_
 simp only [Tree.holds, zc]
 unfold zo at hq
 refine ⟨s, ⟨by simp, hs⟩, ⟨_, rfl⟩, ?_⟩
 rintro _ rfl
 refine ⟨fun h => ?_, fun h => ?_⟩
 ·have h : ¬ errI s = 0 := by simpa using h
  rw [if_neg h] at hq
  refine ⟨s, ⟨by simp, hs⟩, ⟨_, rfl⟩, ?_⟩
  rintro _ rfl
  exact RetR.scal hq rfl (by simp [resV])
 ·have h : errI s = 0 := by simpa using h
  rw [if_pos h] at hq
  refine ⟨t, ⟨by simp, ht⟩, ⟨_, rfl⟩, ?_⟩
  rintro _ rfl
  exact RetR.scal hq rfl (by simp [resV])
noncomputable def GR4 : Nat → Option Ctr := fun f => if f = 95 then some (JZ) else if f = 94 then some (y5) else none
theorem JC : ∀ g c, GR4 g = some c → zd Tryz.prog g c := okIf QT (okIf x6 (zp))
def XX (p : List Nat × List Nat) (r : List Nat × List Nat) : Prop := r.1.length = p.1.length ∧ Ten.dig r.1 ∧ Ten.val r.1 = Ten.val p.1 / Ten.val p.2 ∧ r.2.length ≤ p.1.length ∧ Ten.dig r.2 ∧ Ten.val r.2 = Ten.val p.1 % Ten.val p.2
def Wy : Ctr := ctrP false (fun p : List Nat × List Nat => [nat6 p.1, nat6 p.2]) (fun p => Ten.dig p.1 ∧ Ten.dig p.2 ∧ p.1.length < 2 ^ 38 ∧ p.2.length < 2 ^ 38 ∧ 0 < Ten.val p.2) XX (fun _ r => (.tup [nat6 r.1, nat6 r.2], []))
def SRd (l m : List Nat) (n : Nat) : KV := [(0, nat6 l), (1, nat6 m), (6, .int .i64 (n : Int)), (7, .undef), (8, .undef), (9, .undef), (15, .undef), (16, .undef), (17, .undef), (18, .undef), (19, .undef), (20, .undef)]
def qz (i : Nat) (qs : List Nat) : List Nat := List.replicate i 0 ++ qs
def SRo (l m qs r : List Nat) (i : Nat) : KV := [(0, nat6 l), (1, nat6 m), (6, .int .i64 (m.length : Int)), (7, .osl 0 1 0 l.length), (8, nat6 r), (9, .int .i64 ((i : Int) - 1)), (15, .undef), (16, .undef), (17, .undef), (18, .undef), (19, .undef), (20, .undef)]
theorem Ug {k : IntKind} {x n : Nat} {r : List Nat} (hn : n ≤ 1 + r.length) : eqG n 1 (zg (appG 1 (zf 1 [.int k (x : Int)]) (natG k r)) 0) (natG k ((x :: r).take n)) := by
 intro j o hj ho
 have ho : o = 0 := by omega
 subst ho
 simp only [zg, appG, zf, natG, Nat.zero_add]
 rw [yi hj]
 by_cases h : j < 1
 ·have : j = 0 := by omega
  subst this; simp
 ·obtain ⟨i, rfl⟩ : ∃ i, j = i + 1 := ⟨j - 1, by omega⟩
  simp
def SRn (l m r : List Nat) (p : Nat) : KV := [(0, nat6 l), (1, nat6 m), (6, .int .i64 (m.length : Int)), (7, .osl 0 1 0 l.length), (8, nat6 r), (9, .int .i64 (p : Int)), (15, .undef), (16, .undef), (17, .undef), (18, .undef), (19, .undef), (20, .undef)]
theorem KJ {O : Nat → Prop} {w0 : World} {Hs : Nat → KV → Heap → Prop} {R : List AV → Heap → Prop} (l m qs r0 : List Nat) (p V : Nat) (hm : Ten.dig m) (hll : l.length < 2 ^ 38) (hml : m.length < 2 ^ 38) (hm0 : 0 < Ten.val m) (hp : p < l.length)
  (hql : qs.length + (p + 1) = l.length) (hV : V < 10 * Ten.val m) (hrd : Ten.dig r0) (hrl : r0.length ≤ m.length + 1) (hrv : Ten.val r0 = V)
  (hback : ∀ k r, k < 10 → Ten.dig r → r.length = r0.length → Ten.val r < Ten.val m → V = k * Ten.val m + Ten.val r → ∀ kv h, LeK 0 Tryz.f88.ntmps kv h (SRo l m (k :: qs) r p) [.arr l.length 1 (natG .i64 (qz p (k :: qs)))] → Hs 0 kv h)
  (kv : KV) (h : Heap) (hle : LeK 0 Tryz.f88.ntmps kv h (SRn l m r0 p) [.arr l.length 1 (natG .i64 (qz p (0 :: qs)))]) :
  zb Tryz.prog Tryz.f88 O 0 w0 [] Hs R (.code (.loop (lps (inside (inside K88 0) 0) 0).1) :: (lps (inside (inside K88 0) 0) 0).2) (mk Tryz.f88.ntmps kv h) := by
 refine zb.loop (ι := {z : Nat × List Nat // Ten.dig z.2 ∧ z.2.length = r0.length ∧ V = z.1 * Ten.val m + Ten.val z.2}) (fun z => SRn l m z.1.2 p) (fun z => [.arr l.length 1 (natG .i64 (qz p (z.1.1 :: qs)))]) (fun z => Ten.val z.1.2) ⟨(0, r0), hrd, rfl, by simp [hrv]⟩ 1 hle ?_ (by kernel_rfl)
 rintro ⟨⟨k, r⟩, hrd2, hrl2, hv⟩
 simp only at hrd2 hrl2 hv
 have hk : k < 10 := by
  refine Nat.lt_of_not_le fun h => ?_
  have : 10 * Ten.val m ≤ k * Ten.val m := Nat.mul_le_mul_right _ h
  omega
 have hqp : (qz p (k :: qs)).getD p 0 = k := by rw [qz, vM (by simp)]; simp
 have hset : (qz p (k :: qs)).set p (k + 1) = qz p ((k + 1) :: qs) := by
  simp [qz, List.set_append]
 have hqln : (qz p (k :: qs)).length = l.length := by simp [qz]; omega
 obtain ⟨q, hq⟩ : ∃ q, qz p (k :: qs) = q := ⟨_, rfl⟩
 simp only [hq] at hqp hset hqln ⊢
 refine zb.run hmix JC [0, 1, 6, 7, 8, 9, 15, 16, 17, 18, 19, 20] 400 (T := .ex (fun (x : List Nat × List Nat) => eqL [AV.sl r.length 1 (natG .i64 r), AV.sl m.length 1 (natG .i64 m)] [AV.sl x.1.length 1 (natG .i64 x.1), AV.sl x.2.length 1 (natG .i64 x.2)] ∧ Ten.dig x.1 ∧ Ten.dig x.2 ∧ x.1.length < 4611686018427387904 ∧ x.2.length < 4611686018427387904) fun n => .all (fun (r : Int) => r = cmpN (Ten.val n.1) (Ten.val n.2)) fun n => .ite (decide ((0 : Int) ≤ n)) (.ex (fun (x : List Nat × List Nat) => eqL [AV.sl r.length 1 (natG .i64 r), AV.sl m.length 1 (natG .i64 m)] [AV.sl x.1.length 1 (natG .i64 x.1), AV.sl x.2.length 1 (natG .i64 x.2)] ∧ Ten.dig x.1 ∧ Ten.dig x.2 ∧ x.1.length < 1099511627776 ∧ Ten.val x.2 ≤ Ten.val x.1) fun n => .all (fun (r : List Nat) => r.length = n.1.length ∧ Ten.dig r ∧ Ten.val r + Ten.val n.2 = Ten.val n.1) fun n => .side ((0 : Int) ≤ p ∧ (↑p : Int) < l.length) (.side (inR .i64 ((↑(List.getD q (0 + Int.toNat (↑p : Int)) 0) : Int) + (1 : Int))) (.side ((0 : Int) ≤ p ∧ (↑p : Int) < l.length) (.leaf (.back 1 [(0, .sl l.length 1 (natG .i64 l)), (1, .sl m.length 1 (natG .i64 m)), (6, .int .i64 m.length), (7, .osl 0 1 0 l.length), (8, .sl n.length 1 (natG .i64 n)), (9, .int .i64 p), (15, .undef), (16, .undef), (17, .undef), (18, .undef), (19, .undef), (20, .undef)] [.arr l.length 1 (updG (natG .i64 q) (0 + Int.toNat (↑p : Int)) 0 [.int .i64 ((↑(List.getD q (0 + Int.toNat (↑p : Int)) 0) : Int) + (1 : Int))])]))))) (.side (inR .i64 ((↑p : Int) - (1 : Int))) (.leaf (.back 0 [(0, .sl l.length 1 (natG .i64 l)), (1, .sl m.length 1 (natG .i64 m)), (6, .int .i64 m.length), (7, .osl 0 1 0 l.length), (8, .sl r.length 1 (natG .i64 r)), (9, .int .i64 ((↑p : Int) - (1 : Int))), (15, .undef), (16, .undef), (17, .undef), (18, .undef), (19, .undef), (20, .undef)] [.arr l.length 1 (natG .i64 q)])))) (by kernel_rfl) ?_
 simp only [Tree.holds, zc, inR, lo, hi, Int.toNat_natCast]
 refine ⟨(r, m), ⟨by simp [za], hrd2, hm, by simp only; omega, by simp only; omega⟩, ⟨_, rfl⟩, ?_⟩
 rintro _ rfl
 simp only [Nat.zero_add]
 refine ⟨fun hge => ?_, fun hlt => ?_⟩
 ·have hge : Ten.val m ≤ Ten.val r := uF.1 (of_decide_eq_true hge)
  refine ⟨(r, m), ⟨by simp [za], hrd2, hm, by simp only; omega, hge⟩, yf hrd2 hge, ?_⟩
  rintro r2 ⟨h1, h2, h3⟩
  simp only at h1 h3
  rw [hqp]
  refine ⟨by omega, fun _ => ⟨by omega, fun _ => ⟨by omega, fun _ => ?_⟩⟩⟩
  rw [if_pos trivial]
  refine ⟨⟨(k + 1, r2), h2, h1.trans hrl2, ?_⟩, by show Ten.val r2 < Ten.val r; omega, by simp [SRn, natS, za], ?_, by kernel_rfl, Nat.zero_le _⟩
  ·show V = (k + 1) * Ten.val m + Ten.val r2
   rw [Nat.add_mul, Nat.one_mul]; omega
  ·simp only [← hset]
   have h1 := jL (k := .i64) (l := q) (v := ((k : Int) + 1)) (i := p) (by omega) (by omega)
   have e : ((k : Int) + 1).toNat = k + 1 := by omega
   rw [e, hqln] at h1
   exact ⟨⟨rfl, rfl, h1⟩, trivial⟩
 ·have hlt : Ten.val r < Ten.val m := by
   have := of_decide_eq_false hlt
   rw [uF] at this
   omega
  refine ⟨by omega, fun _ => ?_⟩
  rw [if_neg (by decide)]
  refine hback k r hk hrd2 hrl2 hlt hv _ _ ⟨by simp [SRo, natS, za], ?_, by kernel_rfl, Nat.zero_le _⟩
  rw [hq]
  simp [za]
structure IRo (l m : List Nat) where
 qs : List Nat
 r : List Nat
 i : Nat
 hi : i ≤ l.length
 hql : qs.length + i = l.length
 hqd : Ten.dig qs
 hrd : Ten.dig r
 hrl : r.length ≤ m.length + 1
 hrl2 : r.length + i ≤ l.length
 hlt : Ten.val r < Ten.val m
 hv : Ten.val (l.drop i) = Ten.val qs * Ten.val m + Ten.val r
theorem VB {O : Nat → Prop} {w0 : World} {Q : AV × Heap → Prop} {Hs : Nat → KV → Heap → Prop} (l m : List Nat) (hl : Ten.dig l) (hm : Ten.dig m) (hll : l.length < 2 ^ 38) (hml : m.length < 2 ^ 38) (hm0 : 0 < Ten.val m) (hmt : Ten.val m < 10 ^ m.length)
  (hq : ∀ r, XX (l, m) r → Q (.tup [nat6 r.1, nat6 r.2], [])) (kv : KV) (h : Heap) (hle : LeK 0 Tryz.f88.ntmps kv h (SRo l m [] [] l.length) [.arr l.length 1 (natG .i64 (qz l.length []))]) :
  zb Tryz.prog Tryz.f88 O 0 w0 [] Hs (RetR Wy 0 Q) (.code (.loop (lps (inside K88 0) 0).1) :: (lps (inside K88 0) 0).2) (mk Tryz.f88.ntmps kv h) := by
 refine zb.loop (ι := IRo l m) (fun z => SRo l m z.qs z.r z.i) (fun z => [.arr l.length 1 (natG .i64 (qz z.i z.qs))]) (fun z => z.i) ⟨[], [], l.length, Nat.le_refl _, by simp, by simp [Ten.dig], by simp [Ten.dig], by simp, by simp, by simpa [Ten.val] using hm0, by simp [Ten.val]⟩ 0 hle ?_ (by kernel_rfl)
 rintro ⟨qs, r, i, hil, hql, hqd, hrd, hrl, hrl2, hrv, hv⟩
 obtain ⟨q, hqz⟩ : ∃ q, qz i qs = q := ⟨_, rfl⟩
 simp only [hqz]
 refine zb.run hmix JC [0, 1, 6, 7, 8, 9, 15, 16, 17, 18, 19, 20] 400 (T := .ite (decide ((0 : Int) ≤ i - (1 : Int))) (.side ((0 : Int) ≤ i - (1 : Int) ∧ (↑i : Int) - (1 : Int) < l.length) (.side (0 = 0 ∧ 1 ≤ 1 ∧ (1 + r.length) * 8 ≤ 140737488355328) (.side (inR .i64 ((↑m.length : Int) + (1 : Int))) (.ite (decide ((↑m.length : Int) + (1 : Int) < (↑(1 + r.length) : Int))) (.side (inR .i64 ((↑m.length : Int) + (1 : Int))) (.side ((0 : Int) ≤ m.length + (1 : Int) ∧ (↑m.length : Int) + (1 : Int) ≤ (↑(1 + r.length) : Int)) (.leaf (.loop (Prod.fst (lps (inside (inside K88 0) 0) 0)) (Prod.snd (lps (inside (inside K88 0) 0) 0)) [(0, .sl l.length 1 (natG .i64 l)), (1, .sl m.length 1 (natG .i64 m)), (6, .int .i64 m.length), (7, .osl 0 1 0 l.length), (8, .osl 1 1 0 (Int.toNat ((↑m.length : Int) + (1 : Int)) - 0)), (9, .int .i64 ((↑i : Int) - (1 : Int))), (15, .undef), (16, .undef), (17, .undef), (18, .undef), (19, .undef), (20, .undef)] [.arr l.length 1 (natG .i64 q), .arr (1 + r.length) 1 (appG 1 (zf 1 [.int .i64 (↑(List.getD l (Int.toNat ((↑i : Int) - (1 : Int))) 0) : Int)]) (natG .i64 r))])))) (.leaf (.loop (Prod.fst (lps (inside (inside K88 0) 0) 0)) (Prod.snd (lps (inside (inside K88 0) 0) 0)) [(0, .sl l.length 1 (natG .i64 l)), (1, .sl m.length 1 (natG .i64 m)), (6, .int .i64 m.length), (7, .osl 0 1 0 l.length), (8, .osl 1 1 0 (1 + r.length)), (9, .int .i64 ((↑i : Int) - (1 : Int))), (15, .undef), (16, .undef), (17, .undef), (18, .undef), (19, .undef), (20, .undef)] [.arr l.length 1 (natG .i64 q), .arr (1 + r.length) 1 (appG 1 (zf 1 [.int .i64 (↑(List.getD l (Int.toNat ((↑i : Int) - (1 : Int))) 0) : Int)]) (natG .i64 r))])))))) (.leaf (.ret [.osl 0 1 0 l.length, .sl r.length 1 (natG .i64 r)] [.arr l.length 1 (natG .i64 q)]))) (by kernel_rfl) ?_
 simp only [Tree.holds, zc, inR, lo, hi, Int.toNat_natCast]
 refine ⟨fun hge => ?_, fun hlt => ?_⟩
 ·obtain ⟨p, rfl⟩ : ∃ p, i = p + 1 := ⟨i - 1, by have := of_decide_eq_true hge; omega⟩
  have e : (((p + 1 : Nat) : Int) - 1).toNat = p := by omega
  have e2 : ((p + 1 : Nat) : Int) - 1 = (p : Int) := by omega
  have e3 : ((m.length : Int) + 1).toNat - 0 = m.length + 1 := by omega
  have hx : l.getD p 0 < 10 := Ten.zz hl p
  have hdrop : l.drop p = l.getD p 0 :: l.drop (p + 1) := by
   have h1 : p < l.length := by omega
   rw [List.drop_eq_getElem_cons h1]
   simp [List.getD, h1]
  simp only [e2, e3, Int.toNat_natCast]
  obtain ⟨x, hxe⟩ : ∃ x, l.getD p 0 = x := ⟨_, rfl⟩
  simp only [hxe] at hx hdrop ⊢
  have hVv : Ten.val (x :: r) = x + 10 * Ten.val r := rfl
  have hV : Ten.val (x :: r) < 10 * Ten.val m := by rw [hVv]; omega
  have hpow : 10 ^ (m.length + 1) = 10 ^ m.length * 10 := Nat.pow_succ ..
  have hcut : Ten.val ((x :: r).take (m.length + 1)) = Ten.val (x :: r) := Uo (by rw [hpow]; omega)
  have hdig : Ten.dig ((x :: r).take (m.length + 1)) := Ten.q8 (Ten.qg.2 ⟨hx, hrd⟩) _
  have main : ∀ n, n = ((x :: r).take (m.length + 1)).length → zb Tryz.prog Tryz.f88 O 0 w0 [] (fun d kv h => if d = 0 then ∃ x' : IRo l m, x'.i < p + 1 ∧ LeK 0 Tryz.f88.ntmps kv h (SRo l m x'.qs x'.r x'.i) [.arr l.length 1 (natG .i64 (qz x'.i x'.qs))] else Hs d kv h) (RetR Wy 0 Q)
    (.code (.loop (lps (inside (inside K88 0) 0) 0).1) :: (lps (inside (inside K88 0) 0) 0).2)
    (mk Tryz.f88.ntmps [(0, nat6 l), (1, nat6 m), (6, .int .i64 (m.length : Int)), (7, .osl 0 1 0 l.length), (8, .osl 1 1 0 n), (9, .int .i64 (p : Int)), (15, .undef), (16, .undef), (17, .undef), (18, .undef), (19, .undef), (20, .undef)]
     [.arr l.length 1 (natG .i64 q), .arr (1 + r.length) 1 (appG 1 (zf 1 [.int .i64 (x : Int)]) (natG .i64 r))]) := by
   intro n hn
   refine zb.freeze [1] (by simp) (by kernel_rfl) ?_
   refine KJ l m qs ((x :: r).take (m.length + 1)) p (Ten.val (x :: r)) hm hll hml hm0 (by omega) (by omega) hV hdig (by simp; omega) hcut ?_ _ _ ⟨?_, ?_, by kernel_rfl, Nat.zero_le _⟩
   ·intro k r' hk hd' hl' hlt' hv' kv h hle'
    rw [if_pos rfl]
    rw [List.length_take, List.length_cons] at hl'
    refine ⟨⟨k :: qs, r', p, by omega, by simp; omega, Ten.qg.2 ⟨hk, hqd⟩, hd', by omega, by omega, hlt', ?_⟩, Nat.lt_succ_self p, hle'⟩
    rw [hdrop]
    show x + 10 * Ten.val (l.drop (p + 1)) = (k + 10 * Ten.val qs) * Ten.val m + Ten.val r'
    rw [hv, Nat.add_mul, Nat.mul_assoc]
    rw [hVv] at hv'
    omega
   ·have : Vg [1] ([.arr l.length 1 (natG .i64 q), .arr (1 + r.length) 1 (appG 1 (zf 1 [.int .i64 (x : Int)]) (natG .i64 r))]) [(0, nat6 l), (1, nat6 m), (6, .int .i64 (m.length : Int)), (7, .osl 0 1 0 l.length), (8, .osl 1 1 0 n), (9, .int .i64 (p : Int)), (15, .undef), (16, .undef), (17, .undef), (18, .undef), (19, .undef), (20, .undef)] = [(0, nat6 l), (1, nat6 m), (6, .int .i64 (m.length : Int)), (7, .osl 0 1 0 l.length), (8, .sl n 1 (zg (appG 1 (zf 1 [.int .i64 (x : Int)]) (natG .i64 r)) 0)), (9, .int .i64 (p : Int)), (15, .undef), (16, .undef), (17, .undef), (18, .undef), (19, .undef), (20, .undef)] := rfl
    rw [this]
    have hg := Ug (k := .i64) (x := x) (r := r) (n := n) (by rw [hn]; simp; omega)
    have h2 : (x :: r).take n = (x :: r).take (m.length + 1) := by rw [hn, List.length_take, ← List.take_take, List.take_length]
    rw [h2] at hg
    subst hn
    refine ⟨rfl, by simp [natS, za], rfl, by simp [natS, za], rfl, by simp, rfl, by simp, rfl, ?_, rfl, by simp, by simp⟩
    exact ⟨rfl, rfl, hg⟩
   ·have : ve [1] (zF [1] [.arr l.length 1 (natG .i64 q), .arr (1 + r.length) 1 (appG 1 (zf 1 [.int .i64 (x : Int)]) (natG .i64 r))]) = [.arr l.length 1 (natG .i64 q), .dead] := rfl
    rw [this]
    have hqq : q = qz p (0 :: qs) := by rw [← hqz]; simp [qz, List.replicate_succ']
    rw [← hqq]
    simp [za]
  refine ⟨by omega, fun _ => ⟨⟨trivial, Nat.le_refl _, by omega⟩, fun _ => ⟨by omega, fun _ => ⟨fun hbig => ?_, fun hsm => ?_⟩⟩⟩⟩
  ·have hbig := of_decide_eq_true hbig
   refine ⟨by omega, fun _ => ⟨by omega, fun _ => main _ ?_⟩⟩
   rw [List.length_take, List.length_cons]; omega
  ·have hsm := of_decide_eq_false hsm
   refine main _ ?_
   rw [List.length_take, List.length_cons]; omega
 ·have hi0 : i = 0 := by have := of_decide_eq_false hlt; omega
  subst hi0
  rw [← hqz]
  have hqq : qz 0 qs = qs := by simp [qz]
  rw [hqq]
  have hql2 : l.length = qs.length := by omega
  rw [List.drop_zero] at hv
  have hb : ([.arr l.length 1 (natG .i64 qs)] : Heap)[0]? = some (.arr l.length 1 (natG .i64 qs)) := rfl
  have hd : Ten.val l / Ten.val m = Ten.val qs ∧ Ten.val l % Ten.val m = Ten.val r := by
   rw [hv, Nat.mul_comm, Nat.mul_add_div hm0, Nat.mul_add_mod, Nat.div_eq_of_lt hrv, Nat.mod_eq_of_lt hrv]
   exact ⟨by omega, rfl⟩
  refine RetR.out0 (hq (qs, r) ⟨by simp only; omega, hqd, by simp only [hd.1], by simp only; omega, hrd, by simp only [hd.2]⟩) (fun h => by cases h) ?_
  simp only [resV, exp2, List.map_cons, List.map_nil, exp1]
  rw [jv hb (by omega), Xe]
  simp [eqA2, eqL1, eqA, eqA0, natS, za, exp0, ren0, hql2]
theorem XE : zd Tryz.prog 88 Wy := by
 refine ze (fn := Tryz.f88) (c := Tryz.f88.body.getD .skip) rfl rfl rfl fun p hp O w0 Q hq => ?_
 obtain ⟨l, m⟩ := p
 obtain ⟨hl, hm, hll, hml, hm0⟩ := hp
 simp only at hq hl hm hll hml hm0
 refine zb.run hmix JC [0, 1, 6, 7, 8, 9, 15, 16, 17, 18, 19, 20] 400 (T := .leaf (.loop (Prod.fst (lps K88 0)) (Prod.snd (lps K88 0)) [(0, .sl l.length 1 (natG .i64 l)), (1, .sl m.length 1 (natG .i64 m)), (6, .int .i64 m.length), (7, .undef), (8, .undef), (9, .undef), (15, .undef), (16, .undef), (17, .undef), (18, .undef), (19, .undef), (20, .undef)] [])) (by kernel_rfl) ?_
 simp only [Tree.holds, zc]
 refine zb.loop (ι := {n : Nat // n ≤ m.length ∧ Ten.tlen m ≤ n}) (fun n => SRd l m n.1) (fun _ => []) (fun n => n.1) ⟨m.length, Nat.le_refl _, Ten.zP m⟩ 0 ?_ ?_ (by kernel_rfl)
 ·exact ⟨by simp [SRd, natS, za], by simp, by kernel_rfl, Nat.zero_le _⟩
 ·rintro ⟨n, hn, ht⟩
  refine zb.run hmix JC [0, 1, 6, 7, 8, 9, 15, 16, 17, 18, 19, 20] 400 (T := .side (decide ((1 : Int) < n) = true → inR .i64 ((↑n : Int) - (1 : Int))) (.side (decide ((1 : Int) < n) = true → (0 : Int) ≤ n - (1 : Int) ∧ (↑n : Int) - (1 : Int) < m.length) (.ite (bif decide ((1 : Int) < n) then decide ((↑(List.getD m (Int.toNat ((↑n : Int) - (1 : Int))) 0) : Int) = 0) else false) (.side (inR .i64 ((↑n : Int) - (1 : Int))) (.leaf (.back 0 [(0, .sl l.length 1 (natG .i64 l)), (1, .sl m.length 1 (natG .i64 m)), (6, .int .i64 ((↑n : Int) - (1 : Int))), (7, .undef), (8, .undef), (9, .undef), (15, .undef), (16, .undef), (17, .undef), (18, .undef), (19, .undef), (20, .undef)] []))) (.side ((0 : Int) ≤ n ∧ (↑n : Int) ≤ m.length) (.side ((0 : Int) ≤ l.length ∧ (↑l.length : Int) ≤ l.length ∧ inR .i64 (↑l.length : Int) ∧ Int.toNat (↑l.length : Int) * 8 ≤ 140737488355328) (.side (inR .i64 ((↑l.length : Int) - (1 : Int))) (.leaf (.loop (Prod.fst (lps (inside K88 0) 0)) (Prod.snd (lps (inside K88 0) 0)) [(0, .sl l.length 1 (natG .i64 l)), (1, .sl (Int.toNat (↑n : Int) - 0) 1 (zg (natG .i64 m) 0)), (6, .int .i64 n), (7, .osl 0 1 0 (Int.toNat (↑l.length : Int))), (8, .nils), (9, .int .i64 ((↑l.length : Int) - (1 : Int))), (15, .undef), (16, .undef), (17, .undef), (18, .undef), (19, .undef), (20, .undef)] [.arr (Int.toNat (↑l.length : Int)) 1 (vq [.int .i64 0])])))))))) (by kernel_rfl) ?_
  simp only [Tree.holds, zc, inR, lo, hi, Int.toNat_natCast]
  refine ⟨by omega, fun _ => ⟨fun h => by have := of_decide_eq_true h; omega, fun _ => ⟨fun hz => ?_, fun hz => ?_⟩⟩⟩
  ·have hn1 : 1 < n := by
    rcases Nat.lt_or_ge 1 n with h | h
    ·exact h
    ·rw [decide_eq_false (by omega)] at hz; cases hz
   have e : ((n : Int) - 1).toNat = n - 1 := by omega
   have hz : m.getD (n - 1) 0 = 0 := by
    rw [decide_eq_true (by omega), e] at hz
    have := of_decide_eq_true hz
    omega
   refine ⟨by omega, fun _ => ?_⟩
   rw [if_pos trivial]
   refine ⟨⟨n - 1, by omega, ?_⟩, by show n - 1 < n; omega, by simp [SRd, natS, za]; omega, by simp, by kernel_rfl, Nat.zero_le _⟩
   refine Nat.le_of_not_lt fun hlt => ?_
   have hnt : n = Ten.tlen m := by omega
   subst hnt
   exact Ten.qe m (by omega) hz
  ·refine ⟨by omega, fun _ => ⟨by omega, fun _ => ⟨by omega, fun _ => ?_⟩⟩⟩
   have hlen : (m.take n).length = n := by rw [List.length_take]; omega
   have hd : Ten.dig (m.take n) := Ten.q8 hm n
   have hval : Ten.val (m.take n) = Ten.val m := by
    refine Zt hd hm fun j => ?_
    rcases Nat.lt_or_ge j n with h | h
    ·exact yi h
    ·rw [jT (by omega), Ten.qH m j (by omega)]
   refine VB l (m.take n) hl hd hll (by omega) (by omega) (Ten.zC hd) ?_ _ _ ⟨?_, ?_, by kernel_rfl, Nat.zero_le _⟩
   ·intro r hr
    refine hq r ?_
    simp only [XX, hval] at hr ⊢
    exact hr
   ·refine ⟨rfl, by simp [natS, za], rfl, ?_, by simp [hlen, natS]⟩
    refine ⟨by rw [hlen]; rfl, rfl, ?_⟩
    intro j o hj ho
    have ho : o = 0 := by omega
    subst ho
    simp only [zg, natG, Nat.zero_add]
    rw [yi (by omega)]
   ·refine ⟨⟨rfl, rfl, ?_⟩, trivial⟩
    intro j o hj ho
    have ho : o = 0 := by omega
    subst ho
    simp only [vq, natG, qz, List.append_nil]
    rw [ZL hj]; rfl
end Go.Proofs.Tryz
end

/- The reference's integers: the greatest common divisor. -/
section
set_option maxRecDepth 100000
open Go Go.Sx Go.Proofs Go.Nov
namespace Go.Proofs.Tryz
attribute [local simp] eqKV eqA eqA0 eqH eqB eqL eqL0
noncomputable def K66 : List Go.Sx.Item := [.code (Tryz.f66.body.getD .skip)]
def big : Nat := 1000
theorem XK {s : List UInt8} (h : errI s = 0) : numI s < 10 ^ big := by
 obtain ⟨_, h1, _, h2⟩ := kE h
 exact Nat.lt_of_lt_of_le (xj h1) (Nat.pow_le_pow_right (by decide) h2)
theorem zg7 {x y : Nat} (hx : x < 10 ^ big) (hy : y < 10 ^ big) : wr false (Nat.gcd x y) = (qu false (Nat.gcd x y), 0) := by
 have h : Nat.gcd x y < 10 ^ big := by
  rcases Nat.eq_zero_or_pos x with h | h
  ·subst h; rw [Nat.gcd_zero_left]; exact hy
  ·exact Nat.lt_of_le_of_lt (Nat.le_of_dvd h (Nat.gcd_dvd_left x y)) hx
 have h2 := vO h
 have hb : big = 1000 := rfl
 unfold wr qu
 split
 ·rfl
 ·rw [if_neg (by omega)]
theorem wq {s : List UInt8} (h : errI s = 0) : digR s = (dg (parse s).2, (parse s).1, true) ∧ Ten.dig (dg (parse s).2) ∧ (dg (parse s).2).length ≤ 1000 ∧ Ten.val (dg (parse s).2) = numI s := by
 obtain ⟨neg, b, h1, h2, h3, h4, h5, h6⟩ := uI h
 refine ⟨?_, ?_, ?_, Jv _⟩
 ·simp only [digR, h2, h3, if_true]
 ·simp only [h2]; exact UQ h4
 ·simp only [h2, vY]; exact h6
def zah : Ctr := ctrP true (fun p : List UInt8 × List UInt8 => [.str p.1, .str p.2]) (fun p => p.1.length < 2 ^ 40 ∧ p.2.length < 2 ^ 40) (fun p r => r = gcdR p.1 p.2) (fun _ r => (.tup [.str r.1, .int .i64 r.2], []))
def SRg (x y : List Nat) : KV := [(7, nat6 x), (10, nat6 y)]
noncomputable def GR5 : Nat → Option Ctr := fun f => if f = 86 then some (Xh) else if f = 64 then some (vp) else if f = 88 then some (Wy) else if f = 87 then some (zav) else if f = 89 then some (uf) else none
theorem zbw : ∀ g c, GR5 g = some c → zd Tryz.prog g c := okIf Jp (okIf vJ (okIf XE (okIf Xu (okIf yb (zp)))))
theorem Xs : zd Tryz.prog 66 zah := by
 refine ze (fn := Tryz.f66) (c := Tryz.f66.body.getD .skip) rfl rfl rfl fun p hp O w0 Q hq => ?_
 obtain ⟨s, t⟩ := p
 obtain ⟨hs, ht⟩ := hp
 replace hq := hq _ rfl
 simp only at hs ht hq
 refine zb.run hmix zbw [7, 10] 400 (T := .ex (fun (x : List UInt8 × List UInt8) => eqL [AV.str s, AV.str t] [AV.str x.1, AV.str x.2] ∧ x.1.length < 1099511627776 ∧ x.2.length < 1099511627776) fun n => .all (fun (r : Int) => r = zo n.1 n.2) fun n => .ite (!decide (n = 0)) (.leaf (.ret [.str (Array.toList #[]), .int .i64 n] [])) (.ex (fun (x : List UInt8) => eqL [AV.str s] [AV.str x] ∧ x.length < 1099511627776) fun n => .all (fun (r : List Nat × Bool × Bool) => r = digR n) fun n => .ex (fun (x : List UInt8) => eqL [AV.str t] [AV.str x] ∧ x.length < 1099511627776) fun n_1 => .all (fun (r : List Nat × Bool × Bool) => r = digR n_1) fun n_2 => .leaf (.loop (Prod.fst (lps K66 0)) (Prod.snd (lps K66 0)) [(7, .sl n.1.length 1 (natG .i64 n.1)), (10, .sl n_2.1.length 1 (natG .i64 n_2.1))] []))) (by kernel_rfl) ?_
 simp only [Tree.holds, zc]
 refine ⟨(s, t), ⟨by simp, hs, ht⟩, ⟨_, rfl⟩, ?_⟩
 rintro _ rfl
 simp only
 refine ⟨fun he => ?_, fun he => ?_⟩
 ·have he : zo s t ≠ 0 := by
   intro h; simp [h] at he
  have e : gcdR s t = ([], zo s t) := by simp [gcdR, he]
  rw [e] at hq
  exact RetR.scal hq rfl (by simp [resV])
 ·have he : zo s t = 0 := by
   refine Decidable.byContradiction fun h => ?_
   simp [h] at he
  obtain ⟨h1, h2⟩ := zl.1 he
  have e : gcdR s t = (qu false (Nat.gcd (numI s) (numI t)), 0) := by
   rw [gcdR, if_pos he]; exact zg7 (XK h1) (XK h2)
  rw [e] at hq
  refine ⟨s, ⟨by simp, hs⟩, ⟨_, rfl⟩, ?_⟩
  rintro _ rfl
  refine ⟨t, ⟨by simp, ht⟩, ⟨_, rfl⟩, ?_⟩
  rintro _ rfl
  obtain ⟨a1, a2, a3, a4⟩ := wq h1
  obtain ⟨b1, b2, b3, b4⟩ := wq h2
  rw [a1, b1]
  simp only
  rw [← a4, ← b4] at hq
  generalize dg (parse s).2 = x0 at *
  generalize dg (parse t).2 = y0 at *
  clear a1 b1 e he h1 h2 hs ht a4 b4
  refine zb.loop (ι := {z : List Nat × List Nat // Nat.gcd (Ten.val z.1) (Ten.val z.2) = Nat.gcd (Ten.val x0) (Ten.val y0) ∧ Ten.dig z.1 ∧ Ten.dig z.2 ∧ z.1.length ≤ 1000 ∧ z.2.length ≤ 1000}) (fun z => SRg z.1.1 z.1.2) (fun _ => []) (fun z => Ten.val z.1.2) ⟨(x0, y0), rfl, a2, b2, a3, b3⟩ 0 ?_ ?_ (by kernel_rfl)
  ·exact ⟨by simp [SRg, natS, za], by simp, by kernel_rfl, Nat.zero_le _⟩
  ·rintro ⟨⟨x, y⟩, hg, hx, hy, hxl, hyl⟩
   simp only at hg hx hy hxl hyl
   refine zb.run hmix zbw [7, 10] 400 (T := .ex (fun (x : List Nat) => eqL [AV.sl y.length 1 (natG .i64 y)] [AV.sl x.length 1 (natG .i64 x)] ∧ Ten.dig x ∧ x.length < 4611686018427387904) fun n => .all (fun (r : Bool) => r = decide (Ten.val n = 0)) fun n => .ite (!n) (.ex (fun (x_1 : List Nat × List Nat) => eqL [AV.sl x.length 1 (natG .i64 x), AV.sl y.length 1 (natG .i64 y)] [AV.sl x_1.1.length 1 (natG .i64 x_1.1), AV.sl x_1.2.length 1 (natG .i64 x_1.2)] ∧ Ten.dig x_1.1 ∧ Ten.dig x_1.2 ∧ x_1.1.length < 274877906944 ∧ x_1.2.length < 274877906944 ∧ 0 < Ten.val x_1.2) fun n => .all (fun (r : List Nat × List Nat) => r.1.length = n.1.length ∧ Ten.dig r.1 ∧ Ten.val r.1 = Ten.val n.1 / Ten.val n.2 ∧ r.2.length ≤ n.1.length ∧ Ten.dig r.2 ∧ Ten.val r.2 = Ten.val n.1 % Ten.val n.2) fun n => .leaf (.back 0 [(7, .sl y.length 1 (natG .i64 y)), (10, .sl n.2.length 1 (natG .i64 n.2))] [])) (.ex (fun (x_1 : List Nat × Bool) => eqL [AV.sl x.length 1 (natG .i64 x), AV.bool false] [AV.sl x_1.1.length 1 (natG .i64 x_1.1), AV.bool x_1.2] ∧ Ten.dig x_1.1 ∧ x_1.1.length < 1099511627776) fun n => .all (fun (r : List UInt8) => r = qu n.2 (Ten.val n.1)) fun n => .leaf (.ret [.str n, .int .i64 0] []))) (by kernel_rfl) ?_
   simp only [Tree.holds, zc, inR, lo, hi]
   refine ⟨y, ⟨by simp [za], hy, by omega⟩, ⟨_, rfl⟩, ?_⟩
   rintro _ rfl
   refine ⟨fun h0 => ?_, fun h0 => ?_⟩
   ·have hy0 : 0 < Ten.val y := by
     rcases Nat.eq_zero_or_pos (Ten.val y) with h | h
     ·rw [h] at h0; simp at h0
     ·exact h
    refine ⟨(x, y), ⟨by simp [za], hx, hy, by simp only; omega, by simp only; omega, hy0⟩, ?_, ?_⟩
    ·obtain ⟨g1, g2, g3⟩ := uP hx (Nat.div_le_self (Ten.val x) (Ten.val y))
     obtain ⟨g4, g5, g6⟩ := uP hx (Nat.mod_le (Ten.val x) (Ten.val y))
     exact ⟨(_, _), g1, g2, g3, Nat.le_of_eq g4, g5, g6⟩
    rintro ⟨q, r⟩ ⟨g1, g2, g3, g4, g5, g6⟩
    simp only at g1 g2 g3 g4 g5 g6
    simp only
    rw [if_pos trivial]
    refine ⟨⟨(y, r), ?_, hy, g5, hyl, Nat.le_trans g4 hxl⟩, ?_, by simp [SRg, natS, za], by simp, by kernel_rfl, Nat.zero_le _⟩
    ·show Nat.gcd (Ten.val y) (Ten.val r) = _
     rw [g6, ← hg, Nat.gcd_comm (Ten.val x), Nat.gcd_rec (Ten.val y) (Ten.val x), Nat.gcd_comm]
    ·show Ten.val r < Ten.val y
     rw [g6]; exact Nat.mod_lt _ hy0
   ·have hy0 : Ten.val y = 0 := by
     refine Decidable.byContradiction fun h => ?_
     rw [decide_eq_false h] at h0; simp at h0
    refine ⟨(x, false), ⟨by simp [za], hx, by simp only; omega⟩, ⟨_, rfl⟩, ?_⟩
    rintro _ rfl
    rw [hy0, Nat.gcd_zero_right] at hg
    rw [← hg] at hq
    exact RetR.scal hq rfl (by simp [resV])
end Go.Proofs.Tryz
end

/- The library's search for a byte, and what it means for the contracts. -/
section
namespace Go.Proofs
set_option maxHeartbeats 1000000 in
set_option maxRecDepth 100000 in
theorem Tryz.Vi (s : ByteArray) (c : Int) (w : World) :
  Calls Tryz.prog 112 #[.string s, .int .u8 c] w fun e w' => e = .returned (.int .i64 (Lib.indexByte s.data.toList c.toNat.toUInt8)) ∧ w' = w := by
 go_enter Tryz.func112, Tryz.ntmps112
 go_wp2
 rw [run_callFunc_extern Tryz.func116 (by kernel_rfl) (by kernel_rfl) (by kernel_rfl) (e := Extern.BytealgIndexByte.indexByte) (by kernel_rfl), Lib.run_indexByteString]
 simp only [Result.andThen]
 rw [Oper.upon_value]
 go_wp2
 go_ret
 exact ⟨rfl, rfl⟩
set_option maxHeartbeats 2000000 in
set_option maxRecDepth 100000 in
theorem Tryz.K6 (s : ByteArray) (c : UInt8) (w : World) :
  Calls Tryz.prog 110 #[.string s, .string ⟨#[c]⟩] w fun e w' => e = .returned (.int .i64 (Lib.indexByte s.data.toList c)) ∧ w' = w := by
 go_enter Tryz.func110, Tryz.ntmps110
 go_wp2_with (go_at_call 112; refine (Tryz.Vi _ _ _).mono ?_; rintro e w' ⟨rfl, rfl⟩)
 ·have h : ([c] == s.toList) = true := by assumption
  go_ret
  refine ⟨?_, rfl⟩
  have e : s.data.toList = [c] := by rw [← Lib.toList_data]; exact (beq_iff_eq.1 h).symm
  rw [e]
  simp [Lib.indexByte]
 ·go_ret
  exact ⟨rfl, rfl⟩
end Go.Proofs
end

/- Rationals: splitting and checking. -/
section
set_option maxRecDepth 100000
open Go Go.Sx Go.Proofs Go.Nov
namespace Go.Proofs.Tryz
attribute [local simp] eqKV eqA eqA0 eqH eqB eqL eqL0
noncomputable def K65 : List Go.Sx.Item := [.code (Tryz.f65.body.getD .skip)]
theorem u9 (s : List UInt8) : Lib.indexByte s 47 = if zx s < s.length then (zx s : Int) else -1 := by
 induction s with
 | nil => rfl
 | cons c s ih =>
  simp only [Lib.indexByte, zx, List.findIdx_cons]
  cases h : (c == 47) with
  | true => simp
  | false =>
   simp only [Bool.false_eq_true, if_false, ih, cond_false, List.length_cons]
   show _ = if zx s + 1 < s.length + 1 then ((zx s + 1 : Nat) : Int) else -1
   by_cases h2 : zx s < s.length
   ·rw [if_pos h2, if_neg (by simp), if_pos (by omega)]; omega
   ·rw [if_neg h2, if_pos (by rfl), if_neg (by omega)]
def KB : Ctr := ctrP true (fun s : List UInt8 => [.str s, .str [47]]) (fun s => True) (fun s r => r = if zx s < s.length then (zx s : Int) else -1) (fun _ (r : Int) => (.int .i64 r, []))
theorem zax : zd Tryz.prog 110 KB := by
 intro args hc Q hq _
 simp only [KB, ctrP] at hq
 split at hq
 ·obtain ⟨s, ⟨h1, _⟩, _, h3⟩ := hq
  have hq := h3 _ rfl
  simp only [Tree.holds] at hq
  refine qR.le h1 ?_
  intro O w σ vals hg hh hr
  simp only [RepL, Rep] at hr
  obtain ⟨v1, r1, rfl, rfl, v2, r2, rfl, rfl, rfl⟩ := hr
  refine .inl ⟨enters_of Tryz.func110 (by kernel_rfl) rfl .., ?_⟩
  refine (Tryz.K6 ⟨s.toArray⟩ 47 w).mono ?_
  rintro e w' ⟨rfl, rfl⟩
  have hx := u9 s
  have h0 : σ = [] := List.length_eq_zero_iff.1 hh.len
  subst h0
  refine ⟨_, rfl, _, [], [], hq, ?_, ⟨rfl, fun i j e f a b h => by simp at h, fun i e a h => by simp at h, fun i e b h => by simp at h⟩, hg, Nat.le_refl _, Hold.refl _ _ _, Ext.refl _ _⟩
  simp only [Rep]
  rw [← hx]
 ·exact hq.elim
def cutC : Ctr := ctrP true (fun s : List UInt8 => [.str s, .str [47]]) (fun s => s.length < 2 ^ 62) (fun s r => r = cutR s) (fun _ r => (.tup [.str r.1, .str r.2.1, .bool r.2.2], []))
noncomputable def GC1 : Nat → Option Ctr := fun f => if f = 110 then some (KB) else none
theorem zey : ∀ g c, GC1 g = some c → zd Tryz.prog g c := okIf zax (zp)
theorem zd3 : zd Tryz.prog 98 cutC := by
 refine ze (fn := Tryz.f98) (c := Tryz.f98.body.getD .skip) rfl rfl rfl fun s hs O w0 Q hq => ?_
 replace hq := hq _ rfl
 refine zb.run hmix zey [] 400 (T := .ex (fun (x : List UInt8) => eqL [AV.str s, AV.str [(47 : UInt8)]] [AV.str x, AV.str [(47 : UInt8)]] ∧ True) fun n => .all (fun (r : Int) => r = if zx n < n.length then (↑(zx n) : Int) else (-1 : Int)) fun n => .ite (decide ((0 : Int) ≤ n)) (.side ((0 : Int) ≤ n ∧ n ≤ (↑s.length : Int)) (.side (inR .i64 (n + (1 : Int))) (.side ((0 : Int) ≤ n + (1 : Int) ∧ n + (1 : Int) ≤ s.length) (.leaf (.ret [.str (List.drop 0 (List.take (Int.toNat n) s)), .str (List.drop (Int.toNat (n + (1 : Int))) (List.take s.length s)), .bool true] []))))) (.leaf (.ret [.str s, .str (Array.toList #[]), .bool false] []))) (by kernel_rfl) ?_
 simp only [Tree.holds, zc, inR, lo, hi]
 refine ⟨s, ⟨by simp, trivial⟩, ⟨_, rfl⟩, ?_⟩
 rintro _ rfl
 by_cases h : zx s < s.length
 ·simp only [if_pos h]
  rw [uE h] at hq
  refine ⟨fun _ => ⟨by omega, fun _ => ⟨by omega, fun _ => ⟨by omega, fun _ => ?_⟩⟩⟩, fun hn => ?_⟩
  ·refine RetR.scal hq rfl ?_
   simp [resV]
  ·have := of_decide_eq_false hn; omega
 ·simp only [if_neg h]
  rw [J0 h] at hq
  refine ⟨fun hn => ?_, fun _ => RetR.scal hq rfl (by simp [resV])⟩
  have := of_decide_eq_true hn; omega
noncomputable def GC2 : Nat → Option Ctr := fun f => if f = 98 then some (cutC) else none
theorem zgb : ∀ g c, GC2 g = some c → zd Tryz.prog g c := okIf zd3 (zp)
theorem zex : zd Tryz.prog 79 cutC := by
 refine ze (fn := Tryz.f79) (c := Tryz.f79.body.getD .skip) rfl rfl rfl fun s hs O w0 Q hq => ?_
 replace hq := hq _ rfl
 refine zb.run hmix zgb [] 400 (T := .ex (fun (x : List UInt8) => eqL [AV.str s, AV.str [(47 : UInt8)]] [AV.str x, AV.str [(47 : UInt8)]] ∧ x.length < 4611686018427387904) fun n => .all (fun (r : List UInt8 × List UInt8 × Bool) => r = cutR n) fun n => .leaf (.ret [.str n.1, .str n.2.1, .bool n.2.2] [])) (by kernel_rfl) ?_
 simp only [Tree.holds, zc, inR, lo, hi]
 refine ⟨s, ⟨by simp, hs⟩, ⟨_, rfl⟩, ?_⟩
 rintro _ rfl
 exact RetR.scal hq rfl (by simp [resV])
def KK : Ctr := ctrP true (fun s : List UInt8 => [.str s]) (fun s => s.length < 2 ^ 62) (fun s r => r = cutR s) (fun _ r => (.tup [.str r.1, .str r.2.1, .bool r.2.2], []))
noncomputable def GC3 : Nat → Option Ctr := fun f => if f = 79 then some (cutC) else if f = 53 then some (Qc) else none
theorem Uq : ∀ g c, GC3 g = some c → zd Tryz.prog g c := okIf zex (okIf ZC (zp))
theorem WK : zd Tryz.prog 51 KK := by
 refine ze (fn := Tryz.f51) (c := Tryz.f51.body.getD .skip) rfl rfl rfl fun s hs O w0 Q hq => ?_
 replace hq := hq _ rfl
 refine zb.run hmix Uq [] 400 (T := .ex (fun (x : List UInt8) => eqL [AV.str s, AV.str (Array.toList #[(47 : UInt8)])] [AV.str x, AV.str [(47 : UInt8)]] ∧ x.length < 4611686018427387904) fun n => .all (fun (r : List UInt8 × List UInt8 × Bool) => r = cutR n) fun n => .leaf (.ret [.str n.1, .str n.2.1, .bool n.2.2] [])) (by kernel_rfl) ?_
 simp only [Tree.holds, zc, inR, lo, hi]
 refine ⟨s, ⟨by simp, hs⟩, ⟨_, rfl⟩, ?_⟩
 rintro _ rfl
 exact RetR.scal hq rfl (by simp [resV])
def zen : Ctr := ctrP true (fun s : List UInt8 => [.str s]) (fun s => s.length < 2 ^ 62) (fun s r => r = if errI s = 12 then 12 else 0) (fun _ (r : Int) => (.int .i64 r, []))
theorem zcu : zd Tryz.prog 52 zen := by
 refine ze (fn := Tryz.f52) (c := Tryz.f52.body.getD .skip) rfl rfl rfl fun s hs O w0 Q hq => ?_
 replace hq := hq _ rfl
 refine zb.run hmix Uq [] 400 (T := .ex (fun (x : List UInt8) => eqL [AV.str s] [AV.str x] ∧ x.length < 4611686018427387904) fun n => .all (fun (r : Int) => r = errI n) fun n => .ite (!decide (n = 14)) (.leaf (.ret [.int .i64 n] [])) (.leaf (.ret [.int .i64 0] []))) (by kernel_rfl) ?_
 simp only [Tree.holds, zc, inR, lo, hi]
 refine ⟨s, ⟨by simp, hs⟩, ⟨_, rfl⟩, ?_⟩
 rintro _ rfl
 rcases j7 s with h | h | h <;> simp only [h] at hq ⊢
 all_goals
  refine ⟨fun h => ?_, fun h => ?_⟩
  all_goals first
   | (exfalso; revert h; decide)
   | exact RetR.scal hq rfl (by simp [resV])
def uN : Ctr := ctrP true (fun s : List UInt8 => [.str s]) (fun s => s.length < 2 ^ 62) (fun s r => r = errR s) (fun _ (r : Int) => (.int .i64 r, []))
noncomputable def GC4 : Nat → Option Ctr := fun f => if f = 51 then some (KK) else if f = 52 then some (zen) else if f = 53 then some (Qc) else if f = 54 then some (gcdC) else none
theorem zev : ∀ g c, GC4 g = some c → zd Tryz.prog g c := okIf WK (okIf zcu (okIf ZC (okIf Uf (zp))))
theorem yT : zd Tryz.prog 24 uN := by
 refine ze (fn := Tryz.f24) (c := Tryz.f24.body.getD .skip) rfl rfl rfl fun s hs O w0 Q hq => ?_
 replace hq := hq _ rfl
 refine zb.run hmix zev [] 400 (T := .ex (fun (x : List UInt8) => eqL [AV.str s] [AV.str x] ∧ x.length < 4611686018427387904) fun n => .all (fun (r : List UInt8 × List UInt8 × Bool) => r = cutR n) fun n => .ex (fun (x : List UInt8) => eqL [AV.str n.1] [AV.str x] ∧ x.length < 4611686018427387904) fun n_1 => .all (fun (r : Int) => r = if errI n_1 = 12 then (12 : Int) else (0 : Int)) fun n_2 => .ex (fun (x : List UInt8) => (!decide (n_2 = 0)) = false ∧ n.2.2 = true → eqL [AV.str n.2.1] [AV.str x] ∧ x.length < 4611686018427387904) fun n_3 => .all (fun (x : Int) => (!decide (n_2 = 0)) = false ∧ n.2.2 = true → x = if errI n_3 = 12 then (12 : Int) else (0 : Int)) fun n_4 => .side (((!decide (n_2 = 0)) = false ∧ n.2.2 = true) ∧ (!decide (n_4 = 0)) = false → (0 : Int) ≤ 0 ∧ (0 : Int) < n.2.1.length) (.ite (bif !decide (n_2 = 0) then true else bif n.2.2 then bif bif bif !decide (n_4 = 0) then true else decide ((↑(UInt8.toNat (List.getD n.2.1 0 (0 : UInt8))) : Int) = 45) then true else decide (n.2.1 = Array.toList #[(48 : UInt8)]) then true else decide (n.2.1 = Array.toList #[(49 : UInt8)]) else false) (.leaf (.ret [.int .i64 12] [])) (.ex (fun (x : List UInt8) => eqL [AV.str n.1] [AV.str x] ∧ x.length < 4611686018427387904) fun n_5 => .all (fun (r : Int) => r = errI n_5) fun n_6 => .ex (fun (x : List UInt8) => (!decide (n_6 = 0)) = false ∧ n.2.2 = true → eqL [AV.str n.2.1] [AV.str x] ∧ x.length < 4611686018427387904) fun n_7 => .all (fun (x : Int) => (!decide (n_6 = 0)) = false ∧ n.2.2 = true → x = errI n_7) fun n_8 => .ite (bif !decide (n_6 = 0) then true else bif n.2.2 then !decide (n_8 = 0) else false) (.leaf (.ret [.int .i64 14] [])) (.ite n.2.2 (.ex (fun (x : List UInt8 × List UInt8) => eqL [AV.str n.1, AV.str n.2.1] [AV.str x.1, AV.str x.2] ∧ x.1.length < 4611686018427387904 ∧ x.2.length < 4611686018427387904) fun n => .all (fun (r : List UInt8 × Int) => r = gcdR n.1 n.2) fun n => .ite (!decide (n.1 = Array.toList #[(49 : UInt8)])) (.leaf (.ret [.int .i64 12] [])) (.leaf (.ret [.int .i64 0] []))) (.leaf (.ret [.int .i64 0] [])))))) (by kernel_rfl) ?_
 simp only [Tree.holds, zc, inR, lo, hi]
 refine ⟨s, ⟨by simp, hs⟩, ⟨_, rfl⟩, ?_⟩
 rintro _ rfl
 have hlen := uJ s
 have hno : (cutR s).2.2 = false → (cutR s).1 = s := by
  intro h
  unfold cutR at h ⊢
  split at h
  ·cases h
  ·rename_i hn; rw [if_neg hn]
 simp only [errR] at hq
 generalize cutR s = c at hq hlen hno ⊢
 obtain ⟨n, d, f⟩ := c
 simp only at hq hlen hno ⊢
 refine ⟨n, ⟨by simp, by omega⟩, ⟨_, rfl⟩, ?_⟩
 rintro _ rfl
 refine ⟨d, fun _ => ⟨by simp, by omega⟩, ⟨_, fun _ => rfl⟩, ?_⟩
 intro fd hfd
 cases f with
 | false =>
  have hn := hno rfl
  subst hn
  rw [if_neg (by decide)] at hq
  refine ⟨fun h => by simp at h, fun _ => ⟨fun h => ?_, fun h => ?_⟩⟩
  ·rcases j7 n with e | e | e <;> rw [e] at hq h
   ·simp at h
   ·exact RetR.scal hq rfl (by simp [resV])
   ·simp at h
  ·have hn12 : errI n ≠ 12 := by
    intro e; rw [e] at h; simp at h
   refine ⟨n, ⟨by simp, by omega⟩, ⟨_, rfl⟩, ?_⟩
   rintro _ rfl
   refine ⟨d, fun _ => ⟨by simp, by omega⟩, ⟨_, fun _ => rfl⟩, ?_⟩
   intro fd2 _
   refine ⟨fun h => ?_, fun h => ⟨fun h => (by cases h), fun _ => ?_⟩⟩
   ·rcases j7 n with e | e | e
    ·rw [e] at h; simp at h
    ·exact absurd e hn12
    ·rw [e] at hq; exact RetR.scal hq rfl (by simp [resV])
   ·rcases j7 n with e | e | e
    ·rw [e] at hq; exact RetR.scal hq rfl (by simp [resV])
    ·exact absurd e hn12
    ·rw [e] at h; simp at h
 | true =>
  rw [if_pos rfl] at hq
  by_cases hn : errI n = 12
  ·rw [if_pos (.inl hn)] at hq
   simp only [hn]
   refine ⟨fun h => by simp at h, fun _ => ⟨fun _ => RetR.scal hq rfl (by simp [resV]), fun h => by simp at h⟩⟩
  ·rw [if_neg hn] at hfd ⊢
   have hfd := hfd ⟨by simp, rfl⟩
   subst hfd
   by_cases hd : errI d = 12
   ·rw [if_pos (.inr (.inl hd))] at hq
    rw [if_pos hd]
    refine ⟨fun h => by simp at h, fun _ => ⟨fun _ => RetR.scal hq rfl (by simp [resV]), fun h => by simp at h⟩⟩
   ·rw [if_neg hd]
    have hd0 : d ≠ [] := by rintro rfl; exact hd ZT
    have hneg := yR hd0
    have hneg2 : decide (((d.getD 0 0).toNat : Int) = 45) = negI d := by
     rw [hneg]
     by_cases h : d.getD 0 0 = 45
     ·rw [h]; rfl
     ·rw [decide_eq_false h]
      refine decide_eq_false fun h2 => h (yg ?_)
      rw [h2]; rfl
    rw [hneg2]
    refine ⟨fun _ => by have := List.length_pos_iff.2 hd0; omega, fun _ => ⟨fun h => ?_, fun h => ?_⟩⟩
    ·have : negI d = true ∨ d = [48] ∨ d = [49] := by
      revert h
      cases negI d <;> simp
     rw [if_pos (.inr (.inr this))] at hq
     exact RetR.scal hq rfl (by simp [resV])
    ·have : ¬ (errI n = 12 ∨ errI d = 12 ∨ negI d = true ∨ d = [48] ∨ d = [49]) := by
      revert h
      cases negI d <;> simp [hn, hd]
     rw [if_neg this] at hq
     refine ⟨n, ⟨by simp, by omega⟩, ⟨_, rfl⟩, ?_⟩
     rintro _ rfl
     refine ⟨d, fun _ => ⟨by simp, by omega⟩, ⟨_, fun _ => rfl⟩, ?_⟩
     intro ed hed
     by_cases hn0 : errI n = 0
     ·have hed := hed ⟨by simp [hn0], rfl⟩
      subst hed
      by_cases hd0 : errI d = 0
      ·rw [if_neg (by simp [hn0, hd0])] at hq
       refine ⟨fun h => by simp [hn0, hd0] at h, fun _ => ⟨fun _ => ?_, fun h => by cases h⟩⟩
       refine ⟨(n, d), ⟨by simp, by simp only; omega, by simp only; omega⟩, ⟨_, rfl⟩, ?_⟩
       rintro _ rfl
       refine ⟨fun h => ?_, fun h => ?_⟩
       ·rw [if_pos (by simpa using h)] at hq
        exact RetR.scal hq rfl (by simp [resV])
       ·rw [if_neg (by simpa using h)] at hq
        exact RetR.scal hq rfl (by simp [resV])
      ·rw [if_pos (.inr hd0)] at hq
       refine ⟨fun _ => RetR.scal hq rfl (by simp [resV]), fun h => by simp [hn0, hd0] at h⟩
     ·rw [if_pos (.inl hn0)] at hq
      refine ⟨fun _ => RetR.scal hq rfl (by simp [resV]), fun h => by simp [hn0] at h⟩
def VI : Ctr := ctrP true (fun s : List UInt8 => [.str s]) (fun s => s.length < 2 ^ 62) (fun s r => r = if zx s < s.length then (zx s : Int) else -1) (fun _ (r : Int) => (.int .i64 r, []))
def SSl (s : List UInt8) (i : Nat) : KV := [(0, .str s), (3, .int .i64 (i : Int))]
theorem Vy : zd Tryz.prog 65 VI := by
 refine ze (fn := Tryz.f65) (c := Tryz.f65.body.getD .skip) rfl rfl rfl fun s hs O w0 Q hq => ?_
 replace hq := hq _ rfl
 refine zb.run hmix zq [0, 3] 400 (T := .leaf (.loop (Prod.fst (lps K65 0)) (Prod.snd (lps K65 0)) [(0, .str s), (3, .int .i64 0)] [])) (by kernel_rfl) ?_
 simp only [Tree.holds, zc, inR, lo, hi]
 refine zb.loop (ι := {i : Nat // i ≤ s.length ∧ ∀ j, j < i → s.getD j 0 ≠ 47}) (fun i => SSl s i.1) (fun _ => []) (fun i => s.length - i.1) ⟨0, Nat.zero_le _, fun j hj => by omega⟩ 0 ?_ ?_ (by kernel_rfl)
 ·exact ⟨by simp [SSl], by simp, by kernel_rfl, Nat.zero_le _⟩
 ·rintro ⟨i, hil, hib⟩
  refine zb.run hmix zq [0, 3] 400 (T := .ite (decide ((↑i : Int) < s.length)) (.side ((0 : Int) ≤ i ∧ (↑i : Int) < s.length) (.ite (decide ((↑(UInt8.toNat (List.getD s (Int.toNat (↑i : Int)) (0 : UInt8))) : Int) = 47)) (.leaf (.ret [.int .i64 i] [])) (.side (inR .i64 ((↑i : Int) + (1 : Int))) (.leaf (.back 0 [(0, .str s), (3, .int .i64 ((↑i : Int) + (1 : Int)))] []))))) (.leaf (.ret [.int .i64 (-1 : Int)] []))) (by kernel_rfl) ?_
  simp only [Tree.holds, zc, inR, lo, hi, Int.toNat_natCast]
  refine ⟨fun hlt => ?_, fun hge => ?_⟩
  ·have hlt : i < s.length := by have := of_decide_eq_true hlt; omega
   refine ⟨by omega, fun _ => ⟨fun h => ?_, fun h => ⟨by omega, fun _ => ?_⟩⟩⟩
   ·have h : s.getD i 0 = 47 := yg (of_decide_eq_true h)
    have e := W5 hlt h hib
    rw [if_pos (by omega), e] at hq
    exact RetR.scal hq rfl (by simp [resV])
   ·have h : s.getD i 0 ≠ 47 := by
     intro h2
     exact of_decide_eq_false h (by rw [h2]; rfl)
    rw [if_pos trivial]
    refine ⟨⟨i + 1, hlt, fun j hj => ?_⟩, by show s.length - (i + 1) < s.length - i; omega, by simp [SSl], by simp, by kernel_rfl, Nat.zero_le _⟩
    rcases Nat.lt_or_ge j i with h1 | h1
    ·exact hib j h1
    ·have : j = i := by omega
     rw [this]; exact h
  ·have hge : i = s.length := by have := of_decide_eq_false hge; omega
   subst hge
   have e := Za hib
   rw [if_neg (by omega)] at hq
   exact RetR.scal hq rfl (by simp [resV])
def ZI : Ctr := ctrP true (fun s : List UInt8 => [.str s]) (fun s => s.length < 2 ^ 62) (fun s r => r = ((cutR s).1, if (cutR s).2.2 then (cutR s).2.1 else [49])) (fun _ r => (.tup [.str r.1, .str r.2], []))
noncomputable def GQ1 : Nat → Option Ctr := fun f => if f = 65 then some (VI) else none
theorem zf4 : ∀ g c, GQ1 g = some c → zd Tryz.prog g c := okIf Vy (zp)
theorem ZJ : zd Tryz.prog 63 ZI := by
 refine ze (fn := Tryz.f63) (c := Tryz.f63.body.getD .skip) rfl rfl rfl fun s hs O w0 Q hq => ?_
 replace hq := hq _ rfl
 refine zb.run hmix zf4 [] 400 (T := .ex (fun (x : List UInt8) => eqL [AV.str s] [AV.str x] ∧ x.length < 4611686018427387904) fun n => .all (fun (r : Int) => r = if zx n < n.length then (↑(zx n) : Int) else (-1 : Int)) fun n => .ite (decide (n < 0)) (.leaf (.ret [.str s, .str (Array.toList #[(49 : UInt8)])] [])) (.side ((0 : Int) ≤ n ∧ n ≤ (↑s.length : Int)) (.side (inR .i64 (n + (1 : Int))) (.side ((0 : Int) ≤ n + (1 : Int) ∧ n + (1 : Int) ≤ s.length) (.leaf (.ret [.str (List.drop 0 (List.take (Int.toNat n) s)), .str (List.drop (Int.toNat (n + (1 : Int))) (List.take s.length s))] [])))))) (by kernel_rfl) ?_
 simp only [Tree.holds, zc, inR, lo, hi]
 refine ⟨s, ⟨by simp, hs⟩, ⟨_, rfl⟩, ?_⟩
 rintro _ rfl
 by_cases h : zx s < s.length
 ·simp only [if_pos h]
  rw [uE h] at hq
  refine ⟨fun hn => ?_, fun hn => ?_⟩
  ·have := of_decide_eq_true hn; omega
  ·refine ⟨by omega, fun _ => ⟨by omega, fun _ => ⟨by omega, fun _ => ?_⟩⟩⟩
   exact RetR.scal hq rfl (by simp [resV])
 ·simp only [if_neg h]
  rw [J0 h] at hq
  refine ⟨fun hn => RetR.scal hq rfl (by simp [resV]), fun hn => ?_⟩
  have := of_decide_eq_false hn; omega
def kT : Ctr := ctrP true (fun s : List UInt8 => [.str s]) (fun s => s.length < 2 ^ 40) (fun s r => r = errR s) (fun _ (r : Int) => (.int .i64 r, []))
noncomputable def GQ2 : Nat → Option Ctr := fun f => if f = 65 then some (VI) else if f = 63 then some (ZI) else if f = 64 then some (vp) else if f = 66 then some (zah) else none
theorem zfe : ∀ g c, GQ2 g = some c → zd Tryz.prog g c := okIf Vy (okIf ZJ (okIf vJ (okIf Xs (zp))))
theorem kj : zd Tryz.prog 40 kT := by
 refine ze (fn := Tryz.f40) (c := Tryz.f40.body.getD .skip) rfl rfl rfl fun s hs O w0 Q hq => ?_
 replace hq := hq _ rfl
 refine zb.run hmix zfe [] 400 (T := .ex (fun (x : List UInt8) => eqL [AV.str s] [AV.str x] ∧ x.length < 4611686018427387904) fun n => .all (fun (r : List UInt8 × List UInt8) => r = (Prod.fst (cutR n), if Prod.snd (Prod.snd (cutR n)) = true then Prod.fst (Prod.snd (cutR n)) else [(49 : UInt8)])) fun n => .ex (fun (x : List UInt8) => eqL [AV.str n.1] [AV.str x] ∧ x.length < 1099511627776) fun n_1 => .all (fun (r : List Nat × Bool × Bool) => r = digR n_1) fun n_2 => .ex (fun (x : List UInt8) => eqL [AV.str n.2] [AV.str x] ∧ x.length < 1099511627776) fun n_3 => .all (fun (r : List Nat × Bool × Bool) => r = digR n_3) fun n_4 => .ex (fun (x : List UInt8) => (bif bif bif !Prod.snd n_2.2 then true else !Prod.snd n_4.2 then true else n_4.2.1 then true else decide (n.2 = Array.toList #[(48 : UInt8)])) = false → eqL [AV.str s] [AV.str x] ∧ x.length < 4611686018427387904) fun n_5 => .all (fun (x : Int) => (bif bif bif !Prod.snd n_2.2 then true else !Prod.snd n_4.2 then true else n_4.2.1 then true else decide (n.2 = Array.toList #[(48 : UInt8)])) = false → x = if zx n_5 < n_5.length then (↑(zx n_5) : Int) else (-1 : Int)) fun n_6 => .ite (bif bif bif bif !Prod.snd n_2.2 then true else !Prod.snd n_4.2 then true else n_4.2.1 then true else decide (n.2 = Array.toList #[(48 : UInt8)]) then true else bif decide ((0 : Int) ≤ n_6) then decide (n.2 = Array.toList #[(49 : UInt8)]) else false) (.leaf (.ret [.int .i64 12] [])) (.ite (bif decide ((1000 : Int) < n_2.1.length) then true else decide ((1000 : Int) < n_4.1.length)) (.leaf (.ret [.int .i64 14] [])) (.ex (fun (x : List UInt8 × List UInt8) => eqL [AV.str n.1, AV.str n.2] [AV.str x.1, AV.str x.2] ∧ x.1.length < 1099511627776 ∧ x.2.length < 1099511627776) fun n => .all (fun (r : List UInt8 × Int) => r = gcdR n.1 n.2) fun n => .ex (fun (x : List UInt8) => eqL [AV.str s] [AV.str x] ∧ x.length < 4611686018427387904) fun n_7 => .all (fun (r : Int) => r = if zx n_7 < n_7.length then (↑(zx n_7) : Int) else (-1 : Int)) fun n_8 => .ite (bif decide ((0 : Int) ≤ n_8) then !decide (n.1 = Array.toList #[(49 : UInt8)]) else false) (.leaf (.ret [.int .i64 12] [])) (.leaf (.ret [.int .i64 0] []))))) (by kernel_rfl) ?_
 simp only [Tree.holds, zc, inR, lo, hi]
 refine ⟨s, ⟨by simp, by omega⟩, ⟨_, rfl⟩, ?_⟩
 rintro _ rfl
 have hlen := uJ s
 have hfl := zbm s
 have hno : (cutR s).2.2 = false → (cutR s).1 = s := by
  intro h
  unfold cutR at h ⊢
  split at h
  ·cases h
  ·rename_i hn; rw [if_neg hn]
 simp only [errR] at hq
 generalize cutR s = c at hq hlen hfl hno ⊢
 obtain ⟨n, d, f⟩ := c
 simp only at hq hlen hfl hno ⊢
 obtain ⟨e, he⟩ : ∃ e, (if f = true then d else [49]) = e := ⟨_, rfl⟩
 have hel : e.length < 1099511627776 := by
  rw [← he]; split
  ·omega
  ·simp
 simp only [he]
 refine ⟨n, ⟨by simp, by omega⟩, ⟨_, rfl⟩, ?_⟩
 rintro _ rfl
 refine ⟨e, ⟨by simp, by omega⟩, ⟨_, rfl⟩, ?_⟩
 rintro _ rfl
 refine ⟨s, fun _ => ⟨by simp, by omega⟩, ⟨_, fun _ => rfl⟩, ?_⟩
 intro sv hsv
 rcases Zp n with ⟨hn1, hn2⟩ | ⟨hn1, ln, hn2, hn3⟩
 ·have hq : Q (.int .i64 12, []) := by
   cases f with
   | false => rw [if_neg (by decide), ← hno rfl, hn1] at hq; exact hq
   | true => rw [if_pos rfl, if_pos (.inl hn1)] at hq; exact hq
  simp only [hn2]
  exact ⟨fun _ => RetR.scal hq rfl (by simp [resV]), fun h => by simp at h⟩
 rcases Zp e with ⟨he1, he2⟩ | ⟨he1, le, he2, he3⟩
 ·have hq : Q (.int .i64 12, []) := by
   cases f with
   | false => rw [if_neg (by decide)] at he; subst he; exact absurd he1 (by decide)
   | true =>
    rw [if_pos rfl] at he; subst he
    rw [if_pos rfl, if_pos (.inr (.inl he1))] at hq; exact hq
  simp only [hn2, he2]
  exact ⟨fun _ => RetR.scal hq rfl (by simp [resV]), fun h => by simp at h⟩
 simp only [hn2, he2, Bool.not_true, cond_false] at hsv ⊢
 cases f with
 | false =>
  rw [if_neg (by decide)] at he hq
  subst he
  have hnn : negI [49] = false := by decide
  have h49 : errI [49] = 0 := by decide
  have hs := hno rfl
  subst hs
  simp only [hnn, cond_false] at hsv ⊢
  have hsv := hsv (by decide)
  rw [← hsv] at hfl
  rw [← hfl, hn3, he3, h49]
  refine ⟨fun h => by simp at h, fun _ => ⟨fun h => ?_, fun h => ?_⟩⟩
  ·rcases j7 n with e | e | e
   ·rw [e] at h; simp at h
   ·exact absurd e hn1
   ·rw [e] at hq; exact RetR.scal hq rfl (by simp [resV])
  ·have h0 : errI n = 0 := by
    rcases j7 n with e | e | e
    ·exact e
    ·exact absurd e hn1
    ·rw [e] at h; simp at h
   rw [h0] at hq
   refine ⟨(n, [49]), ⟨by simp, by simp only; omega, by simp⟩, ⟨_, rfl⟩, ?_⟩
   rintro _ rfl
   refine ⟨n, ⟨by simp, by omega⟩, ⟨_, rfl⟩, ?_⟩
   rintro _ rfl
   rw [← hsv, ← hfl]
   refine ⟨fun h => by simp at h, fun _ => RetR.scal hq rfl (by simp [resV])⟩
 | true =>
  rw [if_pos rfl] at he hq
  subst he
  cases hng : negI d with
  | true =>
   rw [if_pos (.inr (.inr (.inl hng)))] at hq
   exact ⟨fun _ => RetR.scal hq rfl (by simp [resV]), fun h => by simp at h⟩
  | false =>
   simp only [hng, cond_false] at hsv ⊢
   by_cases h48 : d = [48]
   ·rw [if_pos (.inr (.inr (.inr (.inl h48))))] at hq
    rw [decide_eq_true h48]
    exact ⟨fun _ => RetR.scal hq rfl (by simp [resV]), fun h => by simp at h⟩
   ·rw [decide_eq_false h48] at hsv ⊢
    have hsv := hsv rfl
    rw [← hsv] at hfl
    rw [← hfl]
    simp only [cond_false, cond_true]
    by_cases h49 : d = [49]
    ·rw [if_pos (.inr (.inr (.inr (.inr h49))))] at hq
     rw [decide_eq_true h49]
     exact ⟨fun _ => RetR.scal hq rfl (by simp [resV]), fun h => by simp at h⟩
    ·rw [decide_eq_false h49]
     rw [if_neg (by simp [hn1, he1, hng, h48, h49])] at hq
     refine ⟨fun h => (by cases h), fun _ => ?_⟩
     rw [hn3, he3]
     by_cases hn0 : errI n = 0
     ·by_cases hd0 : errI d = 0
      ·rw [if_neg (by simp [hn0, hd0])] at hq
       refine ⟨fun h => by simp [hn0, hd0] at h, fun _ => ?_⟩
       refine ⟨(n, d), ⟨by simp, by simp only; omega, by simp only; omega⟩, ⟨_, rfl⟩, ?_⟩
       rintro _ rfl
       refine ⟨s, ⟨by simp, by omega⟩, ⟨_, rfl⟩, ?_⟩
       rintro _ rfl
       rw [← hsv, ← hfl]
       refine ⟨fun h => ?_, fun h => ?_⟩
       ·rw [if_pos (by simpa using h)] at hq
        exact RetR.scal hq rfl (by simp [resV])
       ·rw [if_neg (by simpa using h)] at hq
        exact RetR.scal hq rfl (by simp [resV])
      ·rw [if_pos (.inr hd0)] at hq
       refine ⟨fun _ => RetR.scal hq rfl (by simp [resV]), fun h => by simp [hn0, hd0] at h⟩
     ·rw [if_pos (.inl hn0)] at hq
      refine ⟨fun _ => RetR.scal hq rfl (by simp [resV]), fun h => by simp [hn0] at h⟩
end Go.Proofs.Tryz
end

/- Names and days. -/
section
set_option maxRecDepth 100000
open Go Go.Sx Go.Proofs Go.Nov
namespace Go.Proofs.Tryz
attribute [local simp] eqKV eqA eqA0 eqH eqB eqL eqL0
noncomputable def K23 : List Go.Sx.Item := [.code (Tryz.f23.body.getD .skip)]
noncomputable def K38 : List Go.Sx.Item := [.code (Tryz.f38.body.getD .skip)]
def xo : Ctr := ctrP true (fun d : Int => [.int .i64 d]) (fun _ => True) (fun d r => r = dayB d) (fun _ (r : Bool) => (.bool r, []))
theorem YR : zd Tryz.prog 26 xo := by
 refine ze (fn := Tryz.f26) (c := Tryz.f26.body.getD .skip) rfl rfl rfl fun d hs O w0 Q hq => ?_
 replace hq := hq _ rfl
 refine zb.run hmix zq [] 400 (T := .leaf (.ret [.bool (bif decide ((0 : Int) ≤ d) then decide (d ≤ 99999) else false)] [])) (by kernel_rfl) ?_
 simp only [Tree.holds, zc]
 refine RetR.scal hq rfl ?_
 simp only [resV, dayB]
 cases decide (0 ≤ d) <;> rfl
theorem JE : zd Tryz.prog 39 xo := by
 refine ze (fn := Tryz.f39) (c := Tryz.f39.body.getD .skip) rfl rfl rfl fun d hs O w0 Q hq => ?_
 replace hq := hq _ rfl
 refine zb.run hmix zq [] 400 (T := .leaf (.ret [.bool (bif decide ((0 : Int) ≤ d) then decide (d ≤ 99999) else false)] [])) (by kernel_rfl) ?_
 simp only [Tree.holds, zc]
 refine RetR.scal hq rfl ?_
 simp only [resV, dayB]
 cases decide (0 ≤ d) <;> rfl
theorem Xz (c : UInt8) : (bif bif decide (97 ≤ (c.toNat : Int)) then decide ((c.toNat : Int) ≤ 122) else false then true else bif decide (65 ≤ (c.toNat : Int)) then decide ((c.toNat : Int) ≤ 90) else false) = isL c := by
 have e1 : decide (97 ≤ (c.toNat : Int)) = decide (97 ≤ c.toNat) := decide_eq_decide.2 (by omega)
 have e2 : decide ((c.toNat : Int) ≤ 122) = decide (c.toNat ≤ 122) := decide_eq_decide.2 (by omega)
 have e3 : decide (65 ≤ (c.toNat : Int)) = decide (65 ≤ c.toNat) := decide_eq_decide.2 (by omega)
 have e4 : decide ((c.toNat : Int) ≤ 90) = decide (c.toNat ≤ 90) := decide_eq_decide.2 (by omega)
 rw [e1, e2, e3, e4]
 simp only [isL]
 cases decide (97 ≤ c.toNat) <;> cases decide (c.toNat ≤ 122) <;> cases decide (65 ≤ c.toNat) <;> rfl
def XI : Ctr := ctrP true (fun c : UInt8 => [.int .u8 (c.toNat : Int)]) (fun _ => True) (fun c r => r = isL c) (fun _ (r : Bool) => (.bool r, []))
theorem Yj : zd Tryz.prog 50 XI := by
 refine ze (fn := Tryz.f50) (c := Tryz.f50.body.getD .skip) rfl rfl rfl fun c hs O w0 Q hq => ?_
 replace hq := hq _ rfl
 refine zb.run hmix zq [] 400 (T := .leaf (.ret [.bool (bif bif decide ((97 : Int) ≤ (↑(UInt8.toNat c) : Int)) then decide ((↑(UInt8.toNat c) : Int) ≤ 122) else false then true else bif decide ((65 : Int) ≤ (↑(UInt8.toNat c) : Int)) then decide ((↑(UInt8.toNat c) : Int) ≤ 90) else false)] [])) (by kernel_rfl) ?_
 simp only [Tree.holds, zc]
 refine RetR.scal hq rfl ?_
 simp only [resV]
 rw [Xz]
theorem xh (c d : UInt8) : decide ((c.toNat : Int) = (d.toNat : Int)) = (c == d) := by
 by_cases h : c = d
 ·subst h; simp
 ·rw [decide_eq_false fun h2 => h (yg h2)]
  simp [h]
theorem zcr (c : UInt8) : (bif decide ((c.toNat : Int) < 48) then true else decide (57 < (c.toNat : Int))) = !isD c := by
 rw [Bool.cond_eq_ite]; exact kC c
theorem zac (c : UInt8) : (bif decide (48 ≤ (c.toNat : Int)) then decide ((c.toNat : Int) ≤ 57) else false) = isD c := by
 have e1 : decide (48 ≤ (c.toNat : Int)) = decide (48 ≤ c.toNat) := decide_eq_decide.2 (by omega)
 have e2 : decide ((c.toNat : Int) ≤ 57) = decide (c.toNat ≤ 57) := decide_eq_decide.2 (by omega)
 rw [e1, e2]; simp only [isD]
 cases decide (48 ≤ c.toNat) <;> cases decide (c.toNat ≤ 57) <;> rfl
theorem zas (c : UInt8) : (bif bif bif !isL c then bif decide ((c.toNat : Int) < 48) then true else decide (57 < (c.toNat : Int)) else false then !decide ((c.toNat : Int) = 95) else false then !decide ((c.toNat : Int) = 45) else false) = !isN c := by
 rw [zcr]
 have e1 : decide ((c.toNat : Int) = 95) = (c == 95) := xh c 95
 have e2 : decide ((c.toNat : Int) = 45) = (c == 45) := xh c 45
 rw [e1, e2]; simp only [isN]
 cases isL c <;> cases isD c <;> cases (c == 95) <;> cases (c == 45) <;> rfl
theorem YU (c : UInt8) (z : Bool) : (bif !bif bif decide (97 ≤ (c.toNat : Int)) then decide ((c.toNat : Int) ≤ 122) else false then true else bif decide (65 ≤ (c.toNat : Int)) then decide ((c.toNat : Int) ≤ 90) else false then
  bif z then true else !bif bif bif decide (48 ≤ (c.toNat : Int)) then decide ((c.toNat : Int) ≤ 57) else false then true else decide ((c.toNat : Int) = 95) then true else decide ((c.toNat : Int) = 45) else false) = !(isL c || (!z && isN c)) := by
 rw [Xz, zac]
 have e1 : decide ((c.toNat : Int) = 95) = (c == 95) := xh c 95
 have e2 : decide ((c.toNat : Int) = 45) = (c == 45) := xh c 45
 rw [e1, e2]; simp only [isN]
 cases isL c <;> cases z <;> cases isD c <;> cases (c == 95) <;> cases (c == 45) <;> rfl
theorem zdh {c : UInt8} (h : isL c = true) : isN c = true := by simp [isN, h]
def yz : Ctr := ctrP true (fun s : List UInt8 => [.str s]) (fun s => s.length < 2 ^ 62) (fun s r => r = zD s) (fun _ (r : Bool) => (.bool r, []))
noncomputable def GN1 : Nat → Option Ctr := fun f => if f = 50 then some (XI) else none
theorem U2 : ∀ g c, GN1 g = some c → zd Tryz.prog g c := okIf Yj (zp)
def SNa (s : List UInt8) (i : Nat) : KV := [(0, .str s), (20, .int .i64 (s.length : Int)), (21, .int .i64 (i : Int)), (31, .undef), (32, .undef), (33, .undef), (34, .undef), (35, .undef), (36, .undef), (39, .undef), (40, .undef), (43, .undef), (44, .undef)]
theorem YA {O : Nat → Prop} {w0 : World} {Q : AV × Heap → Prop} {Hs : Nat → KV → Heap → Prop} (s : List UInt8) (hs : s.length < 2 ^ 62) (hq : Q (.bool (s.all isN), [])) :
  zb Tryz.prog Tryz.f23 O 0 w0 [] Hs (RetR yz 0 Q) (.code (.loop (lps K23 0).1) :: (lps K23 0).2) (mk Tryz.f23.ntmps (SNa s 0) []) := by
 refine zb.loop (ι := {i : Nat // i ≤ s.length ∧ ∀ j, j < i → isN (s.getD j 0) = true}) (fun i => SNa s i.1) (fun _ => []) (fun i => s.length - i.1) ⟨0, Nat.zero_le _, fun j hj => by omega⟩ 0 ?_ ?_ (by kernel_rfl)
 ·exact ⟨by simp [SNa], by simp, by kernel_rfl, Nat.zero_le _⟩
 ·rintro ⟨i, hil, hib⟩
  refine zb.run hmix U2 [0, 20, 21, 31, 32, 33, 34, 35, 36, 39, 40, 43, 44] 400 (T := .ite (decide ((↑i : Int) < s.length)) (.side ((0 : Int) ≤ i ∧ (↑i : Int) < s.length) (.ex (fun (x : UInt8) => eqL [AV.int .u8 (↑(UInt8.toNat (List.getD s (Int.toNat (↑i : Int)) (0 : UInt8))) : Int)] [AV.int .u8 (↑(UInt8.toNat x) : Int)] ∧ True) fun n => .all (fun (r : Bool) => r = isL n) fun n => .ite (bif bif bif !n then bif decide ((↑(UInt8.toNat (List.getD s (Int.toNat (↑i : Int)) (0 : UInt8))) : Int) < 48) then true else decide ((57 : Int) < (↑(UInt8.toNat (List.getD s (Int.toNat (↑i : Int)) (0 : UInt8))) : Int)) else false then !decide ((↑(UInt8.toNat (List.getD s (Int.toNat (↑i : Int)) (0 : UInt8))) : Int) = 95) else false then !decide ((↑(UInt8.toNat (List.getD s (Int.toNat (↑i : Int)) (0 : UInt8))) : Int) = 45) else false) (.leaf (.ret [.bool false] [])) (.side (inR .i64 ((↑i : Int) + (1 : Int))) (.leaf (.back 0 [(0, .str s), (20, .int .i64 s.length), (21, .int .i64 ((↑i : Int) + (1 : Int))), (31, .undef), (32, .undef), (33, .undef), (34, .undef), (35, .undef), (36, .undef), (39, .undef), (40, .undef), (43, .undef), (44, .undef)] []))))) (.leaf (.ret [.bool true] []))) (by kernel_rfl) ?_
  simp only [Tree.holds, zc, inR, lo, hi, Int.toNat_natCast]
  refine ⟨fun hlt => ?_, fun hge => ?_⟩
  ·have hlt : i < s.length := by have := of_decide_eq_true hlt; omega
   refine ⟨by omega, fun _ => ⟨s.getD i 0, ⟨by simp, trivial⟩, ⟨_, rfl⟩, ?_⟩⟩
   rintro _ rfl
   rw [zas]
   refine ⟨fun h => ?_, fun h => ⟨by omega, fun _ => ?_⟩⟩
   ·rw [yv hlt (by simpa using h)] at hq
    exact RetR.scal hq rfl (by simp [resV])
   ·rw [if_pos trivial]
    refine ⟨⟨i + 1, hlt, fun j hj => ?_⟩, by show s.length - (i + 1) < s.length - i; omega, by simp [SNa], by simp, by kernel_rfl, Nat.zero_le _⟩
    rcases Nat.lt_or_ge j i with h1 | h1
    ·exact hib j h1
    ·have : j = i := by omega
     rw [this]; simpa using h
  ·have hge : i = s.length := by have := of_decide_eq_false hge; omega
   subst hge
   rw [Vz hib] at hq
   exact RetR.scal hq rfl (by simp [resV])
theorem XC : zd Tryz.prog 23 yz := by
 refine ze (fn := Tryz.f23) (c := Tryz.f23.body.getD .skip) rfl rfl rfl fun s hs O w0 Q hq => ?_
 replace hq := hq _ rfl
 refine zb.run hmix U2 [0, 20, 21, 31, 32, 33, 34, 35, 36, 39, 40, 43, 44] 400 (T := .side ((bif decide ((↑s.length : Int) < 1) then true else decide ((40 : Int) < s.length)) = false → (0 : Int) ≤ 0 ∧ (0 : Int) < s.length) (.ex (fun (x : UInt8) => (bif decide ((↑s.length : Int) < 1) then true else decide ((40 : Int) < s.length)) = false → eqL [AV.int .u8 (↑(UInt8.toNat (List.getD s 0 (0 : UInt8))) : Int)] [AV.int .u8 (↑(UInt8.toNat x) : Int)] ∧ True) fun n => .all (fun (x : Bool) => (bif decide ((↑s.length : Int) < 1) then true else decide ((40 : Int) < s.length)) = false → x = isL n) fun n => .ite (bif bif decide ((↑s.length : Int) < 1) then true else decide ((40 : Int) < s.length) then true else !n) (.leaf (.ret [.bool false] [])) (.leaf (.loop (Prod.fst (lps K23 0)) (Prod.snd (lps K23 0)) [(0, .str s), (20, .int .i64 s.length), (21, .int .i64 0), (31, .undef), (32, .undef), (33, .undef), (34, .undef), (35, .undef), (36, .undef), (39, .undef), (40, .undef), (43, .undef), (44, .undef)] [])))) (by kernel_rfl) ?_
 simp only [Tree.holds, zc, inR, lo, hi]
 have hd : decide ((s.length : Int) < 1) = !decide (0 < s.length) := by
  by_cases h : 0 < s.length
  ·rw [decide_eq_true h, decide_eq_false (by omega)]; rfl
  ·rw [decide_eq_false h, decide_eq_true (by omega)]; rfl
 have hd2 : decide (40 < (s.length : Int)) = !decide (s.length ≤ 40) := by
  by_cases h : s.length ≤ 40
  ·rw [decide_eq_true h, decide_eq_false (by omega)]; rfl
  ·rw [decide_eq_false h, decide_eq_true (by omega)]; rfl
 rw [hd, hd2]
 have hnb : zD s = (decide (0 < s.length) && decide (s.length ≤ 40) && isL (s.getD 0 0) && s.all isN) := rfl
 cases h1 : decide (0 < s.length) with
 | false =>
  rw [hnb, h1] at hq
  refine ⟨fun h => (by cases h), fun _ => ⟨0, fun h => (by cases h), ⟨false, fun h => (by cases h)⟩, ?_⟩⟩
  intro b _
  exact ⟨fun _ => RetR.scal hq rfl (by simp [resV]), fun h => (by cases h)⟩
 | true =>
  have h1' := of_decide_eq_true h1
  cases h2 : decide (s.length ≤ 40) with
  | false =>
   rw [hnb, h1, h2] at hq
   refine ⟨fun h => (by cases h), fun _ => ⟨0, fun h => (by cases h), ⟨false, fun h => (by cases h)⟩, ?_⟩⟩
   intro b _
   exact ⟨fun _ => RetR.scal hq rfl (by simp [resV]), fun h => (by cases h)⟩
  | true =>
   refine ⟨fun _ => by omega, fun _ => ⟨s.getD 0 0, fun _ => ⟨by simp, trivial⟩, ⟨_, fun _ => rfl⟩, ?_⟩⟩
   intro b hb
   have hb := hb rfl
   subst hb
   cases h3 : isL (s.getD 0 0) with
   | false =>
    rw [hnb, h1, h2, h3] at hq
    exact ⟨fun _ => RetR.scal hq rfl (by simp [resV]), fun h => (by cases h)⟩
   | true =>
    rw [hnb, h1, h2, h3] at hq
    refine ⟨fun h => (by cases h), fun _ => ?_⟩
    exact YA s hs hq
def SNr (s : List UInt8) (i : Nat) : KV := [(0, .str s), (3, .int .i64 (i : Int)), (27, .undef), (28, .undef), (31, .undef), (32, .undef), (33, .undef), (34, .undef), (35, .undef), (36, .undef), (41, .undef), (42, .undef), (45, .undef), (46, .undef), (49, .undef), (50, .undef), (55, .undef), (56, .undef), (57, .undef), (58, .undef), (59, .undef), (60, .undef)]
theorem Ks {O : Nat → Prop} {w0 : World} {Q : AV × Heap → Prop} {Hs : Nat → KV → Heap → Prop} (s : List UInt8) (hs : s.length < 2 ^ 62) (h0 : 0 < s.length) (hq : Q (.bool (isL (s.getD 0 0) && s.all isN), [])) :
  zb Tryz.prog Tryz.f38 O 0 w0 [] Hs (RetR yz 0 Q) (.code (.loop (lps K38 0).1) :: (lps K38 0).2) (mk Tryz.f38.ntmps (SNr s 0) []) := by
 refine zb.loop (ι := {i : Nat // i ≤ s.length ∧ (∀ j, j < i → isN (s.getD j 0) = true) ∧ (0 < i → isL (s.getD 0 0) = true)}) (fun i => SNr s i.1) (fun _ => []) (fun i => s.length - i.1) ⟨0, Nat.zero_le _, fun j hj => by omega, fun h => by omega⟩ 0 ?_ ?_ (by kernel_rfl)
 ·exact ⟨by simp [SNr], by simp, by kernel_rfl, Nat.zero_le _⟩
 ·rintro ⟨i, hil, hib, hi0⟩
  refine zb.run hmix zq [0, 3, 27, 28, 31, 32, 33, 34, 35, 36, 41, 42, 45, 46, 49, 50, 55, 56, 57, 58, 59, 60] 400 (T := .ite (decide ((↑i : Int) < s.length)) (.side ((0 : Int) ≤ i ∧ (↑i : Int) < s.length) (.ite (bif !bif bif decide ((97 : Int) ≤ (↑(UInt8.toNat (List.getD s (Int.toNat (↑i : Int)) (0 : UInt8))) : Int)) then decide ((↑(UInt8.toNat (List.getD s (Int.toNat (↑i : Int)) (0 : UInt8))) : Int) ≤ 122) else false then true else bif decide ((65 : Int) ≤ (↑(UInt8.toNat (List.getD s (Int.toNat (↑i : Int)) (0 : UInt8))) : Int)) then decide ((↑(UInt8.toNat (List.getD s (Int.toNat (↑i : Int)) (0 : UInt8))) : Int) ≤ 90) else false then bif decide ((↑i : Int) = 0) then true else !bif bif bif decide ((48 : Int) ≤ (↑(UInt8.toNat (List.getD s (Int.toNat (↑i : Int)) (0 : UInt8))) : Int)) then decide ((↑(UInt8.toNat (List.getD s (Int.toNat (↑i : Int)) (0 : UInt8))) : Int) ≤ 57) else false then true else decide ((↑(UInt8.toNat (List.getD s (Int.toNat (↑i : Int)) (0 : UInt8))) : Int) = 95) then true else decide ((↑(UInt8.toNat (List.getD s (Int.toNat (↑i : Int)) (0 : UInt8))) : Int) = 45) else false) (.leaf (.ret [.bool false] [])) (.side (inR .i64 ((↑i : Int) + (1 : Int))) (.leaf (.back 0 [(0, .str s), (3, .int .i64 ((↑i : Int) + (1 : Int))), (27, .undef), (28, .undef), (31, .undef), (32, .undef), (33, .undef), (34, .undef), (35, .undef), (36, .undef), (41, .undef), (42, .undef), (45, .undef), (46, .undef), (49, .undef), (50, .undef), (55, .undef), (56, .undef), (57, .undef), (58, .undef), (59, .undef), (60, .undef)] []))))) (.leaf (.ret [.bool true] []))) (by kernel_rfl) ?_
  simp only [Tree.holds, zc, inR, lo, hi, Int.toNat_natCast]
  refine ⟨fun hlt => ?_, fun hge => ?_⟩
  ·have hlt : i < s.length := by have := of_decide_eq_true hlt; omega
   refine ⟨by omega, fun _ => ?_⟩
   rw [YU]
   have hz : decide ((i : Int) = 0) = decide (i = 0) := decide_eq_decide.2 (by omega)
   rw [hz]
   refine ⟨fun h => ?_, fun h => ⟨by omega, fun _ => ?_⟩⟩
   ·have hf : (isL (s.getD 0 0) && s.all isN) = false := by
     have h : (isL (s.getD i 0) || (!decide (i = 0) && isN (s.getD i 0))) = false := by simpa only [Bool.not_eq_true'] using h
     rcases Nat.eq_zero_or_pos i with hi | hi
     ·subst hi
      have : isL (s.getD 0 0) = false := by
       cases h3 : isL (s.getD 0 0) with
       | false => rfl
       | true => rw [h3] at h; cases h
      rw [this]; rfl
     ·rw [decide_eq_false (by omega)] at h
      have : isN (s.getD i 0) = false := by
       cases h3 : isN (s.getD i 0) with
       | false => rfl
       | true => rw [h3] at h; revert h; cases isL (s.getD i 0) <;> intro h <;> cases h
      rw [yv hlt this]; cases isL (s.getD 0 0) <;> rfl
    rw [hf] at hq
    exact RetR.scal hq rfl (by simp [resV])
   ·rw [if_pos trivial]
    have h : (isL (s.getD i 0) || (!decide (i = 0) && isN (s.getD i 0))) = true := by simpa only [Bool.not_eq_false'] using h
    have hN : isN (s.getD i 0) = true := by
     cases h3 : isL (s.getD i 0) with
     | true => exact zdh h3
     | false =>
      rw [h3] at h
      revert h; cases decide (i = 0) <;> cases isN (s.getD i 0) <;> simp
    refine ⟨⟨i + 1, hlt, fun j hj => ?_, fun _ => ?_⟩, by show s.length - (i + 1) < s.length - i; omega, by simp [SNr], by simp, by kernel_rfl, Nat.zero_le _⟩
    ·rcases Nat.lt_or_ge j i with h1 | h1
     ·exact hib j h1
     ·have : j = i := by omega
      rw [this]; exact hN
    ·rcases Nat.eq_zero_or_pos i with h1 | h1
     ·subst h1
      cases h3 : isL (s.getD 0 0) with
      | true => rfl
      | false => rw [h3] at h; cases h
     ·exact hi0 h1
  ·have hge : i = s.length := by have := of_decide_eq_false hge; omega
   subst hge
   rw [Vz hib, hi0 h0] at hq
   exact RetR.scal hq rfl (by simp [resV])
theorem uU : zd Tryz.prog 38 yz := by
 refine ze (fn := Tryz.f38) (c := Tryz.f38.body.getD .skip) rfl rfl rfl fun s hs O w0 Q hq => ?_
 replace hq := hq _ rfl
 refine zb.run hmix zq [0, 3, 27, 28, 31, 32, 33, 34, 35, 36, 41, 42, 45, 46, 49, 50, 55, 56, 57, 58, 59, 60] 400 (T := .ite (bif decide ((↑s.length : Int) = 0) then true else decide ((40 : Int) < s.length)) (.leaf (.ret [.bool false] [])) (.leaf (.loop (Prod.fst (lps K38 0)) (Prod.snd (lps K38 0)) [(0, .str s), (3, .int .i64 0), (27, .undef), (28, .undef), (31, .undef), (32, .undef), (33, .undef), (34, .undef), (35, .undef), (36, .undef), (41, .undef), (42, .undef), (45, .undef), (46, .undef), (49, .undef), (50, .undef), (55, .undef), (56, .undef), (57, .undef), (58, .undef), (59, .undef), (60, .undef)] []))) (by kernel_rfl) ?_
 simp only [Tree.holds, zc, inR, lo, hi]
 have hd : decide ((s.length : Int) = 0) = !decide (0 < s.length) := by
  by_cases h : 0 < s.length
  ·rw [decide_eq_true h, decide_eq_false (by omega)]; rfl
  ·rw [decide_eq_false h, decide_eq_true (by omega)]; rfl
 have hd2 : decide (40 < (s.length : Int)) = !decide (s.length ≤ 40) := by
  by_cases h : s.length ≤ 40
  ·rw [decide_eq_true h, decide_eq_false (by omega)]; rfl
  ·rw [decide_eq_false h, decide_eq_true (by omega)]; rfl
 rw [hd, hd2]
 have hnb : zD s = (decide (0 < s.length) && decide (s.length ≤ 40) && isL (s.getD 0 0) && s.all isN) := rfl
 cases h1 : decide (0 < s.length) with
 | false =>
  rw [hnb, h1] at hq
  exact ⟨fun _ => RetR.scal hq rfl (by simp [resV]), fun h => (by cases h)⟩
 | true =>
  cases h2 : decide (s.length ≤ 40) with
  | false =>
   rw [hnb, h1, h2] at hq
   exact ⟨fun _ => RetR.scal hq rfl (by simp [resV]), fun h => (by cases h)⟩
  | true =>
   rw [hnb, h1, h2] at hq
   refine ⟨fun h => (by cases h), fun _ => ?_⟩
   exact Ks s hs (of_decide_eq_true h1) hq
end Go.Proofs.Tryz
end

/- Integers as they are written: sums, products, comparisons. -/
section
namespace Go.Nov
def sumS (m : Bool) (x : Nat) (n : Bool) (y : Nat) : Bool × Nat := if m = n then (m, x + y) else if y ≤ x then (m, x - y) else (n, y - x)
def addI (s t : List UInt8) : List UInt8 × Int := if zo s t = 0 then wr (sumS (negI s) (numI s) (negI t) (numI t)).1 (sumS (negI s) (numI s) (negI t) (numI t)).2 else ([], zo s t)
def subI (s t : List UInt8) : List UInt8 × Int := if zo s t = 0 then wr (sumS (negI s) (numI s) (!negI t) (numI t)).1 (sumS (negI s) (numI s) (!negI t) (numI t)).2 else ([], zo s t)
def mulI (s t : List UInt8) : List UInt8 × Int := if zo s t = 0 then wr (negI s != negI t) (numI s * numI t) else ([], zo s t)
def cmpZ (m : Bool) (x : Nat) (n : Bool) (y : Nat) : Int := if m = true ∧ n = false then -1 else if n = true ∧ m = false then 1 else if m = true then cmpN y x else cmpN x y
def uz (s t : List UInt8) : Int × Int := if zo s t = 0 then (cmpZ (negI s) (numI s) (negI t) (numI t), 0) else (0, zo s t)
theorem uL {d : Nat} (h : d < 10) : (byt d).toNat = 48 + d := by
 unfold byt
 rw [UInt8.toNat_ofNat']
 omega
theorem xT {x : Nat} (h : x ≠ 0) : txt x = ((dec x).map byt).reverse := if_neg h
theorem xm {x : Nat} (h : x ≠ 0) : (txt x).length = (dec x).length := by rw [xT h]; simp
theorem XQ {x : Nat} (h : x ≠ 0) : allD (txt x) := by
 intro c hc
 rw [xT h] at hc
 simp only [List.mem_reverse, List.mem_map] at hc
 obtain ⟨d, hd, rfl⟩ := hc
 have : d < 10 := Ten.zh x d hd
 rw [uL this]
 omega
theorem zf8 {x : Nat} (h : x ≠ 0) : dg (txt x) = dec x := by
 rw [xT h, dg, List.map_reverse, List.reverse_reverse, List.map_map]
 conv => rhs; rw [← List.map_id (dec x)]
 refine List.map_congr_left fun d hd => ?_
 have : d < 10 := Ten.zh x d hd
 simp only [Function.comp, uL this, id]
 omega
theorem zc8 {x : Nat} (h : x ≠ 0) : numD (txt x) = x := by
 rw [← Jv, zf8 h]
 exact Ten.zk x
theorem yN {x : Nat} (h : x ≠ 0) : (txt x).getD 0 0 ≠ 48 ∧ (txt x).getD 0 0 ≠ 45 := by
 have hl := JA h
 have ht := XB hl
 have hlt := dec_lt x ((dec x).length - 1)
 have e : (txt x).getD 0 0 = byt ((dec x).getD ((dec x).length - 1) 0) := by
  rw [xT h]
  simp only [List.getD_eq_getElem?_getD]
  rw [List.getElem?_reverse (by simpa using hl)]
  simp [List.getElem?_eq_getElem (show (dec x).length - 1 < (dec x).length by omega)]
 rw [e]
 have hb := uL hlt
 constructor
 ·intro h2
  rw [h2] at hb
  have : (48 : UInt8).toNat = 48 := rfl
  omega
 ·intro h2
  rw [h2] at hb
  have : (45 : UInt8).toNat = 45 := rfl
  omega
theorem VY {x : Nat} (h : x ≠ 0) : txt x ≠ [] := by
 intro h2
 have := xm h
 rw [h2] at this
 have := JA h
 simp at *; omega
theorem Ji {x : Nat} (h : x ≠ 0) (neg : Bool) : parse (sgn neg (txt x)) = (neg, txt x) := by
 cases neg with
 | true => rfl
 | false =>
  simp only [sgn, Bool.false_eq_true, if_false]
  have h1 := (yN h).2
  cases ht : txt x with
  | nil => exact absurd ht (VY h)
  | cons c b =>
   rw [ht] at h1
   have : c ≠ 45 := h1
   simp [parse, this]
theorem Wh {x : Nat} (h : x ≠ 0) (neg : Bool) : qb neg (txt x) = true := by
 have h1 := (yN h).1
 have h2 : txt x ≠ [48] := by
  intro h2
  rw [h2] at h1
  exact h1 rfl
 have h3 := VY h
 have h4 : (txt x).all isD = true := XG.2 (XQ h)
 simp only [List.getD_eq_getElem?_getD] at h1
 simp [qb, h3, h2, h1, h4]
theorem Zi {neg : Bool} {x : Nat} (h : (wr neg x).2 = 0) : errI (wr neg x).1 = 0 ∧ numI (wr neg x).1 = x ∧ negI (wr neg x).1 = (neg && decide (x ≠ 0)) := by
 unfold wr at h ⊢
 by_cases h0 : x = 0
 ·subst h0
  simp only [if_true]
  refine ⟨rfl, rfl, ?_⟩
  simp [negI, parse]
 ·rw [if_neg h0] at h ⊢
  by_cases h1 : 1000 < (dec x).length
  ·rw [if_pos h1] at h; cases h
  ·rw [if_neg h1]
   simp only [errI, numI, negI, Ji h0, Wh h0, if_true]
   rw [xm h0, if_neg h1]
   exact ⟨rfl, zc8 h0, by simp [h0]⟩
theorem Ky (neg : Bool) (x : Nat) : (wr neg x).2 = 0 ∨ wr neg x = ([], 14) := by
 unfold wr
 split
 ·exact .inl rfl
 ·split
  ·exact .inr rfl
  ·exact .inl rfl
theorem XL (neg : Bool) (b : List UInt8) : (sgn neg b).length ≤ b.length + 1 := by
 unfold sgn; split <;> simp
theorem jc (neg : Bool) (x : Nat) : (wr neg x).1.length ≤ 1001 := by
 unfold wr
 split
 ·simp
 ·rename_i h0
  split
  ·simp
  ·rename_i h1
   have := XL neg (txt x)
   rw [xm h0] at this
   simp only
   omega
theorem ZQ (s t : List UInt8) : (addI s t).1.length ≤ 1001 := by
 unfold addI
 split
 ·exact jc _ _
 ·simp
theorem zb2 (s t : List UInt8) : (subI s t).1.length ≤ 1001 := by
 unfold subI
 split
 ·exact jc _ _
 ·simp
theorem j0 (s t : List UInt8) : (mulI s t).1.length ≤ 1001 := by
 unfold mulI
 split
 ·exact jc _ _
 ·simp
theorem zdd (b : Bool) (x : Nat) : wr (b && decide (0 < x)) x = wr b x := by
 unfold wr
 by_cases h : x = 0
 ·rw [if_pos h, if_pos h]
 ·rw [if_neg h, if_neg h]
  have : decide (0 < x) = true := decide_eq_true (Nat.pos_of_ne_zero h)
  rw [this, Bool.and_true]
theorem zd7 (m : Bool) (x : Nat) (n : Bool) (y : Nat) : (sumS m x n y).2 ≤ x + y := by
 unfold sumS
 split
 ·exact Nat.le_refl _
 ·split
  ·simp only; omega
  ·simp only; omega
end Go.Nov
end

/- The integers: addition of magnitudes. -/
section
set_option maxRecDepth 100000
open Go Go.Sx Go.Proofs Go.Nov
namespace Go.Proofs.Tryz
attribute [local simp] eqKV eqA eqA0 eqH eqB eqL eqL0
noncomputable def K104 : List Go.Sx.Item := [.code (Tryz.f104.body.getD .skip)]
def X5 : Ctr := ctr2 true (fun x y => (canon x).length < 100000 ∧ (canon y).length < 100000) (fun x y d => d = x + y) (fun _ _ d => (magS d, []))
def SPl (x y : Nat) (o : List Nat) (c i : Nat) : KV := [(1, magS y), (5, .osl 0 1 0 o.length), (6, .int .u32 (c : Int)), (21, magS x), (22, .int .i64 ((canon x).length : Int)), (23, .int .i64 (i : Int))]
structure IPl (x y : Nat) where
 o : List Nat
 c : Nat
 i : Nat
 len : o.length = i
 le : i ≤ (canon x).length
 dg : dig o
 c1 : c ≤ 1
 eq : val o + B ^ i * c = val ((canon x).take i) + val ((canon y).take i)
theorem zf7 {x y o c i d c' : Nat} {l m : List Nat} (h : o + B ^ i * c = val (l.take i) + val (m.take i)) (he : d + B * c' = l.getD i 0 + m.getD i 0 + c) : o + B ^ i * d + B ^ (i + 1) * c' = val (l.take (i + 1)) + val (m.take (i + 1)) := by
 rw [zi, zi, Nat.pow_succ]
 have := congrArg (B ^ i * ·) he
 simp only [Nat.mul_add] at this
 rw [Nat.mul_assoc]
 omega
theorem RetR.zgi {ctr : Ctr} {Q : AV × Heap → Prop} {h : Heap} {i m n : Nat} {k : IntKind} {l : List Nat} {G : Nat → Nat → AV} (hq : Q (natS k l, [])) (hb : h[i]? = some (.arr m 1 G)) (hn : n ≤ m) (hl : l.length = n) (hG : ∀ j, j < n → G j 0 = .int k ((l.getD j 0 : Nat) : Int)) : RetR ctr 0 Q [.osl i 1 0 n] h := by
 refine RetR.out0 hq (fun _ => ?_) ?_
 ·refine wU hb (by omega) fun j o hj ho => ?_
  have : o = 0 := by omega
  subst this
  simp only [zg, Nat.zero_add, hG j hj, zR]
 ·have e : exp2 h [] (resV [.osl i 1 0 n]) = exp0 h [] (.osl i 1 0 n) := rfl
  rw [e, jv hb (by omega), Xe]
  simp only [eqA2, natS]
  refine ⟨hl.symm, rfl, fun j o hj ho => ?_⟩
  have : o = 0 := by omega
  subst this
  rw [hG j hj]; rfl
theorem WR {O : Nat → Prop} {w0 : World} {Q : AV × Heap → Prop} (x y : Nat) (hx : (canon x).length < 100000) (hlen : (canon y).length ≤ (canon x).length) (hq : Q (magS (x + y), [])) (kv : KV) (h : Heap) (hle : LeK 0 Tryz.f104.ntmps kv h (SPl x y [] 0 0) [.arr 0 1 (natG .u32 [])]) :
  zb Tryz.prog Tryz.f104 O 0 w0 [] (fun _ _ _ => False) (RetR X5 0 Q) (.code (.loop (lps K104 0).1) :: (lps K104 0).2) (mk Tryz.f104.ntmps kv h) := by
 refine zb.loop (ι := IPl x y) (fun s => SPl x y s.o s.c s.i) (fun s => [.arr s.o.length 1 (natG .u32 s.o)]) (fun s => (canon x).length - s.i) ⟨[], 0, 0, rfl, Nat.zero_le _, by simp [dig], by omega, by simp [val]⟩ 0 hle ?_ (by kernel_rfl)
 rintro ⟨o, c, i, ho, hle, hd, hc, he⟩
 subst ho
 have hB : B = 1000000000 := rfl
 refine zb.run hmix xW [1, 5, 6, 21, 22, 23] 400 (T := .ite (decide ((↑o.length : Int) < (↑(canon x).length : Int))) (.side ((0 : Int) ≤ o.length ∧ (↑o.length : Int) < (↑(canon x).length : Int)) (.side (inR .u32 ((↑(List.getD (canon x) (Int.toNat (↑o.length : Int)) 0) : Int) + c)) (.ite (decide ((↑o.length : Int) < (↑(canon y).length : Int))) (.side ((0 : Int) ≤ o.length ∧ (↑o.length : Int) < (↑(canon y).length : Int)) (.side (inR .u32 ((↑(List.getD (canon x) (Int.toNat (↑o.length : Int)) 0) : Int) + c + (↑(List.getD (canon y) (Int.toNat (↑o.length : Int)) 0) : Int))) (.side ((1000000000 : Int) ≠ 0 ∧ inR .u32 (Int.tdiv ((↑(List.getD (canon x) (Int.toNat (↑o.length : Int)) 0) : Int) + c + (↑(List.getD (canon y) (Int.toNat (↑o.length : Int)) 0) : Int)) (1000000000 : Int))) (.side ((1000000000 : Int) ≠ 0) (.side (0 = 0 ∧ o.length ≤ o.length ∧ (o.length + 1) * 4 ≤ 140737488355328) (.side (inR .i64 ((↑o.length : Int) + (1 : Int))) (.leaf (.back 0 [(1, .sl (canon y).length 1 (natG .u32 (canon y))), (5, .osl 0 1 0 (o.length + 1)), (6, .int .u32 (Int.tdiv ((↑(List.getD (canon x) (Int.toNat (↑o.length : Int)) 0) : Int) + c + (↑(List.getD (canon y) (Int.toNat (↑o.length : Int)) 0) : Int)) (1000000000 : Int))), (21, .sl (canon x).length 1 (natG .u32 (canon x))), (22, .int .i64 (↑(canon x).length : Int)), (23, .int .i64 ((↑o.length : Int) + (1 : Int)))] [.arr (o.length + 1) 1 (appG o.length (natG .u32 o) (zg (zf 1 [.int .u32 (Int.tmod ((↑(List.getD (canon x) (Int.toNat (↑o.length : Int)) 0) : Int) + c + (↑(List.getD (canon y) (Int.toNat (↑o.length : Int)) 0) : Int)) (1000000000 : Int))]) 0)), .arr 1 1 (zf 1 [.int .u32 (Int.tmod ((↑(List.getD (canon x) (Int.toNat (↑o.length : Int)) 0) : Int) + c + (↑(List.getD (canon y) (Int.toNat (↑o.length : Int)) 0) : Int)) (1000000000 : Int))])])))))))) (.side ((1000000000 : Int) ≠ 0 ∧ inR .u32 (Int.tdiv ((↑(List.getD (canon x) (Int.toNat (↑o.length : Int)) 0) : Int) + c) (1000000000 : Int))) (.side ((1000000000 : Int) ≠ 0) (.side (0 = 0 ∧ o.length ≤ o.length ∧ (o.length + 1) * 4 ≤ 140737488355328) (.side (inR .i64 ((↑o.length : Int) + (1 : Int))) (.leaf (.back 0 [(1, .sl (canon y).length 1 (natG .u32 (canon y))), (5, .osl 0 1 0 (o.length + 1)), (6, .int .u32 (Int.tdiv ((↑(List.getD (canon x) (Int.toNat (↑o.length : Int)) 0) : Int) + c) (1000000000 : Int))), (21, .sl (canon x).length 1 (natG .u32 (canon x))), (22, .int .i64 (↑(canon x).length : Int)), (23, .int .i64 ((↑o.length : Int) + (1 : Int)))] [.arr (o.length + 1) 1 (appG o.length (natG .u32 o) (zg (zf 1 [.int .u32 (Int.tmod ((↑(List.getD (canon x) (Int.toNat (↑o.length : Int)) 0) : Int) + c) (1000000000 : Int))]) 0)), .arr 1 1 (zf 1 [.int .u32 (Int.tmod ((↑(List.getD (canon x) (Int.toNat (↑o.length : Int)) 0) : Int) + c) (1000000000 : Int))])]))))))))) (.side (0 = 0 ∧ o.length ≤ o.length ∧ (o.length + 1) * 4 ≤ 140737488355328) (.ex (fun (u : List Nat) => u.length = o.length + 1 ∧ 0 + (o.length + 1) ≤ o.length + 1 ∧ o.length + 1 < 4611686018427387904 ∧ eqG (o.length + 1) 1 (appG o.length (natG .u32 o) (zg (zf 1 [AV.int .u32 c]) 0)) (natG .u32 u) ∧ dig (List.take (o.length + 1) (List.drop 0 u))) fun n => .all (fun (x : Nat) => x = val (List.take (o.length + 1) (List.drop 0 n))) fun n => .leaf (.ret [.osl 0 1 0 (canon n).length] [.arr (o.length + 1) 1 (appG o.length (natG .u32 o) (zg (zf 1 [.int .u32 c]) 0)), .arr 1 1 (zf 1 [.int .u32 c])])))) (by kernel_rfl) ?_
 simp only [Tree.holds, zc, inR, lo, hi, Int.toNat_natCast, kZ]
 have ha := zz (zh x) o.length
 have hb := zz (zh y) o.length
 have hnext : ∀ d c' : Nat, d < B → c' ≤ 1 → o.length < (canon x).length → d + B * c' = (canon x).getD o.length 0 + (canon y).getD o.length 0 + c →
   ∃ s : IPl x y, s.o = o ++ [d] ∧ s.c = c' ∧ s.i = o.length + 1 := fun d c' h1 h2 h3 h4 =>
  ⟨⟨o ++ [d], c', o.length + 1, by simp, h3, zS.2 ⟨hd, by simp [dig, h1]⟩, h2, by rw [Qd]; exact zf7 (x := x) (y := y) he h4⟩, rfl, rfl, rfl⟩
 have hdiv : ∀ v : Nat, (v : Int).tdiv 1000000000 = ((v / B : Nat) : Int) ∧ (v : Int).tmod 1000000000 = ((v % B : Nat) : Int) := fun v => ⟨rfl, rfl⟩
 have hq2 : ∀ v : Nat, v < 2 * B → v / B ≤ 1 ∧ v % B < B ∧ v % B + B * (v / B) = v := fun v hv => ⟨by have := Nat.div_lt_of_lt_mul (show v < B * 2 by omega); omega, Nat.mod_lt _ (by omega), Nat.mod_add_div _ _⟩
 refine ⟨fun hlt => ?_, fun hge => ?_⟩
 ·have hlt : o.length < (canon x).length := by have := of_decide_eq_true hlt; omega
  refine ⟨by omega, fun _ => ⟨by omega, fun _ => ⟨fun hb2 => ?_, fun hb2 => ?_⟩⟩⟩
  ·have hb2 : o.length < (canon y).length := by have := of_decide_eq_true hb2; omega
   refine ⟨by omega, fun _ => ⟨by omega, fun _ => ?_⟩⟩
   obtain ⟨v, hv⟩ : ∃ v, (canon x).getD o.length 0 + c + (canon y).getD o.length 0 = v := ⟨_, rfl⟩
   have ev : (((canon x).getD o.length 0 : Nat) : Int) + (c : Int) + (((canon y).getD o.length 0 : Nat) : Int) = (v : Int) := by omega
   rw [ev, (hdiv v).1, (hdiv v).2]
   obtain ⟨g1, g2, g3⟩ := hq2 v (by omega)
   generalize v / B = q at g1 g3 ⊢
   generalize v % B = r at g2 g3 ⊢
   refine ⟨⟨by decide, by omega, by omega⟩, fun _ => ⟨by decide, fun _ => ⟨⟨trivial, Nat.le_refl _, by omega⟩, fun _ => ⟨by omega, fun _ => ?_⟩⟩⟩⟩
   obtain ⟨s, h1, h2, h3⟩ := hnext r q g2 g1 hlt (by omega)
   rw [if_pos trivial]
   exact ⟨s, by show _ - s.i < _; omega, by simp [SPl, h1, h2, h3, magS, natS, za], by rw [h1]; exact qw rfl, by kernel_rfl, Nat.zero_le _⟩
  ·have hb2 : (canon y).length ≤ o.length := by have := of_decide_eq_false hb2; omega
   have hb0 : (canon y).getD o.length 0 = 0 := by simp [List.getD, List.getElem?_eq_none hb2]
   obtain ⟨v, hv⟩ : ∃ v, (canon x).getD o.length 0 + c = v := ⟨_, rfl⟩
   have ev : (((canon x).getD o.length 0 : Nat) : Int) + (c : Int) = (v : Int) := by omega
   rw [ev, (hdiv v).1, (hdiv v).2]
   obtain ⟨g1, g2, g3⟩ := hq2 v (by omega)
   generalize v / B = q at g1 g3 ⊢
   generalize v % B = r at g2 g3 ⊢
   refine ⟨⟨by decide, by omega, by omega⟩, fun _ => ⟨by decide, fun _ => ⟨⟨trivial, Nat.le_refl _, by omega⟩, fun _ => ⟨by omega, fun _ => ?_⟩⟩⟩⟩
   obtain ⟨s, h1, h2, h3⟩ := hnext r q g2 g1 hlt (by omega)
   rw [if_pos trivial]
   exact ⟨s, by show _ - s.i < _; omega, by simp [SPl, h1, h2, h3, magS, natS, za], by rw [h1]; exact qw rfl, by kernel_rfl, Nat.zero_le _⟩
 ·have hge : o.length = (canon x).length := by have := of_decide_eq_false hge; omega
  have hv : val (o ++ [c]) = x + y := by
   rw [Qd]
   rw [hge, List.take_length, List.take_of_length_le hlen, zk, zk] at he
   rw [hge]; exact he
  have hdo : dig (o ++ [c]) := zS.2 ⟨hd, by simp [dig]; omega⟩
  have hpush : eqG (o.length + 1) 1 (appG o.length (natG .u32 o) (zg (zf 1 [.int .u32 (c : Int)]) 0)) (natG .u32 (o ++ [c])) := by
   have := yh (k := .u32) (l := o) (v := (c : Int)) (by omega)
   simpa using this
  have hall : List.take (o.length + 1) (List.drop 0 (o ++ [c])) = o ++ [c] := by rw [List.drop_zero]; exact List.take_of_length_le (by simp)
  refine ⟨⟨trivial, Nat.le_refl _, by omega⟩, fun _ => ⟨o ++ [c], ⟨by simp, by omega, by omega, hpush, by rw [hall]; exact hdo⟩, ⟨_, rfl⟩, ?_⟩⟩
  intro X hX
  have hX : X = x + y := by rw [hX, hall, hv]
  subst hX
  have htr : qp (o ++ [c]) = canon (x + y) := by rw [zH hdo, hv]
  have htl : (canon (x + y)).length = tlen (o ++ [c]) := by rw [← htr, qp, List.length_take]; have := zP (o ++ [c]); omega
  rw [htl]
  have hle2 := zP (o ++ [c])
  have hln : (o ++ [c]).length = o.length + 1 := by simp
  refine RetR.zgi (l := canon (x + y)) (k := .u32) hq rfl (by omega) htl fun j hj => ?_
  have := hpush j 0 (by omega) (by omega)
  rw [this, ← htr]
  simp only [natG, qp]
  rw [yi hj]
theorem XO : zd Tryz.prog 104 X5 := by
 refine y6 (fn := Tryz.f104) (c := Tryz.f104.body.getD .skip) rfl rfl rfl fun x y hp O w0 Q hq => ?_
 replace hq := hq _ rfl
 obtain ⟨hx, hy⟩ := hp
 refine zb.run hmix xW [1, 5, 6, 21, 22, 23] 400 (T := .ite (decide ((↑(canon x).length : Int) < (↑(canon y).length : Int))) (.side (inR .i64 ((↑(canon y).length : Int) + (1 : Int))) (.side ((0 : Int) ≤ 0 ∧ (0 : Int) ≤ (↑(canon y).length : Int) + (1 : Int) ∧ inR .i64 ((↑(canon y).length : Int) + (1 : Int)) ∧ Int.toNat ((↑(canon y).length : Int) + (1 : Int)) * 4 ≤ 140737488355328) (.leaf (.loop (Prod.fst (lps K104 0)) (Prod.snd (lps K104 0)) [(1, .sl (canon x).length 1 (natG .u32 (canon x))), (5, .osl 0 1 0 0), (6, .int .u32 0), (21, .sl (canon y).length 1 (natG .u32 (canon y))), (22, .int .i64 (↑(canon y).length : Int)), (23, .int .i64 0)] [.arr 0 1 (vq [.int .u32 0])])))) (.side (inR .i64 ((↑(canon x).length : Int) + (1 : Int))) (.side ((0 : Int) ≤ 0 ∧ (0 : Int) ≤ (↑(canon x).length : Int) + (1 : Int) ∧ inR .i64 ((↑(canon x).length : Int) + (1 : Int)) ∧ Int.toNat ((↑(canon x).length : Int) + (1 : Int)) * 4 ≤ 140737488355328) (.leaf (.loop (Prod.fst (lps K104 0)) (Prod.snd (lps K104 0)) [(1, .sl (canon y).length 1 (natG .u32 (canon y))), (5, .osl 0 1 0 0), (6, .int .u32 0), (21, .sl (canon x).length 1 (natG .u32 (canon x))), (22, .int .i64 (↑(canon x).length : Int)), (23, .int .i64 0)] [.arr 0 1 (vq [.int .u32 0])]))))) (by kernel_rfl) ?_
 simp only [Tree.holds, zc, inR, lo, hi]
 refine ⟨fun h => ?_, fun h => ?_⟩
 ·have h : (canon x).length < (canon y).length := by have := of_decide_eq_true h; omega
  refine ⟨by omega, fun _ => ⟨⟨by omega, by omega, by omega, by omega⟩, fun _ => ?_⟩⟩
  rw [Nat.add_comm] at hq
  exact WR y x hy (by omega) hq _ _ ⟨by simp [SPl, magS, natS, za], by simp [eqG], by kernel_rfl, Nat.zero_le _⟩
 ·have h : (canon y).length ≤ (canon x).length := by have := of_decide_eq_false h; omega
  refine ⟨by omega, fun _ => ⟨⟨by omega, by omega, by omega, by omega⟩, fun _ => ?_⟩⟩
  exact WR x y hx h hq _ _ ⟨by simp [SPl, magS, natS, za], by simp [eqG], by kernel_rfl, Nat.zero_le _⟩
end Go.Proofs.Tryz
end

/- The integers: sums, products, comparisons. -/
section
set_option maxRecDepth 100000
open Go Go.Sx Go.Proofs Go.Nov
namespace Go.Proofs.Tryz
attribute [local simp] eqKV eqA eqA0 eqH eqB eqL eqL0
def zem : Ctr := ctrP false (fun p : Bool × Nat => [.bool p.1, magS p.2]) (fun _ => True) (fun p r => r = (p.1 && decide (0 < p.2), p.2)) (fun _ (r : Bool × Nat) => (numV r.1 r.2, []))
theorem Wr {x : Nat} : decide (0 < ((canon x).length : Int)) = decide (0 < x) := by
 by_cases h : x = 0
 ·subst h; simp [canon]
 ·have h1 : 0 < x := Nat.pos_of_ne_zero h
  have h2 : (canon x).length ≠ 0 := fun h2 => h (xp.1 h2)
  rw [decide_eq_true (by omega), decide_eq_true h1]
theorem RetR.numV {ctr : Ctr} {Q : AV × Heap → Prop} {h : Heap} {b : Bool} {x : Nat} (hf : ctr.fresh = false) (hq : Q (numV b x, [])) : RetR ctr 0 Q [.agg [.bool b, magS x]] h := by
 refine RetR.out0 hq (fun h => by rw [hf] at h; cases h) ?_
 simp [resV, exp2, exp1, exp0, ren0, frz1, eqA2, eqL1, eqA, eqL0, eqA0, Tryz.numV, magS, natS, za]
theorem zd2 : zd Tryz.prog 103 zem := by
 refine ze (fn := Tryz.f103) (c := Tryz.f103.body.getD .skip) rfl rfl rfl fun p hp O w0 Q hq => ?_
 obtain ⟨b, x⟩ := p
 replace hq := hq _ rfl
 refine zb.run hmix zq [] 400 (T := .leaf (.ret [.agg [.bool (bif b then decide ((0 : Int) < (↑(canon x).length : Int)) else false), .sl (canon x).length 1 (natG .u32 (canon x))]] [.box [.bool (bif b then decide ((0 : Int) < (↑(canon x).length : Int)) else false), .sl (canon x).length 1 (natG .u32 (canon x))]])) (by kernel_rfl) ?_
 simp only [Tree.holds, zc]
 rw [Wr]
 have e : (bif b then decide (0 < x) else false) = (b && decide (0 < x)) := by cases b <;> rfl
 rw [e]
 exact RetR.numV rfl hq
def sumC : Ctr := ctrP false (fun p : (Bool × Nat) × (Bool × Nat) => [numV p.1.1 p.1.2, numV p.2.1 p.2.2]) (fun p => (canon p.1.2).length < 100000 ∧ (canon p.2.2).length < 100000)
 (fun p r => r = ((sumS p.1.1 p.1.2 p.2.1 p.2.2).1 && decide (0 < (sumS p.1.1 p.1.2 p.2.1 p.2.2).2), (sumS p.1.1 p.1.2 p.2.1 p.2.2).2)) (fun _ (r : Bool × Nat) => (numV r.1 r.2, []))
noncomputable def GSu : Nat → Option Ctr := fun f => if f = 103 then some (zem) else if f = 104 then some (X5) else if f = 77 then some (yq) else if f = 101 then some (JL) else none
theorem zg4 : ∀ g c, GSu g = some c → zd Tryz.prog g c := okIf zd2 (okIf XO (okIf xH (okIf Zk (zp))))
theorem zg3 : zd Tryz.prog 84 sumC := by
 refine ze (fn := Tryz.f84) (c := Tryz.f84.body.getD .skip) rfl rfl rfl fun p hp O w0 Q hq => ?_
 obtain ⟨⟨m, x⟩, ⟨n, y⟩⟩ := p
 obtain ⟨h1, h2⟩ := hp
 replace hq := hq _ rfl
 simp only at h1 h2 hq
 refine zb.run hmix zg4 [] 400 (T := .ite (m == n) (.ex (fun (x_1 : Nat × Nat) => eqL [AV.sl (canon x).length 1 (natG .u32 (canon x)), AV.sl (canon y).length 1 (natG .u32 (canon y))] [AV.sl (canon x_1.1).length 1 (natG .u32 (canon x_1.1)), AV.sl (canon x_1.2).length 1 (natG .u32 (canon x_1.2))] ∧ List.length (canon x_1.1) < 100000 ∧ List.length (canon x_1.2) < 100000) fun n_1 => .all (fun (d : Nat) => d = n_1.1 + n_1.2) fun n_2 => .ex (fun (x : Bool × Nat) => eqL [AV.bool m, AV.sl (canon n_2).length 1 (natG .u32 (canon n_2))] [AV.bool x.1, AV.sl (canon x.2).length 1 (natG .u32 (canon x.2))] ∧ True) fun n_3 => .all (fun (r : Bool × Nat) => r = (n_3.1 && decide (0 < n_3.2), n_3.2)) fun n_4 => .leaf (.ret [.agg [.bool n_4.1, .sl (canon n_4.2).length 1 (natG .u32 (canon n_4.2))]] [.box [.bool m, .sl (canon x).length 1 (natG .u32 (canon x))], .box [.bool n, .sl (canon y).length 1 (natG .u32 (canon y))], .box [.bool n_4.1, .sl (canon n_4.2).length 1 (natG .u32 (canon n_4.2))]])) (.ex (fun (x_1 : Nat × Nat) => eqL [AV.sl (canon x).length 1 (natG .u32 (canon x)), AV.sl (canon y).length 1 (natG .u32 (canon y))] [AV.sl (canon x_1.1).length 1 (natG .u32 (canon x_1.1)), AV.sl (canon x_1.2).length 1 (natG .u32 (canon x_1.2))] ∧ fits x_1.1 ∧ fits x_1.2) fun n_1 => .all (fun (r : Int) => r = cmp3 n_1.1 n_1.2) fun n_2 => .ite (decide ((0 : Int) ≤ n_2)) (.ex (fun (x_1 : Nat × Nat) => eqL [AV.sl (canon x).length 1 (natG .u32 (canon x)), AV.sl (canon y).length 1 (natG .u32 (canon y))] [AV.sl (canon x_1.1).length 1 (natG .u32 (canon x_1.1)), AV.sl (canon x_1.2).length 1 (natG .u32 (canon x_1.2))] ∧ fits x_1.1 ∧ x_1.2 ≤ x_1.1) fun n_3 => .all (fun (d : Nat) => d = n_3.1 - n_3.2) fun n_4 => .ex (fun (x : Bool × Nat) => eqL [AV.bool m, AV.sl (canon n_4).length 1 (natG .u32 (canon n_4))] [AV.bool x.1, AV.sl (canon x.2).length 1 (natG .u32 (canon x.2))] ∧ True) fun n_5 => .all (fun (r : Bool × Nat) => r = (n_5.1 && decide (0 < n_5.2), n_5.2)) fun n_6 => .leaf (.ret [.agg [.bool n_6.1, .sl (canon n_6.2).length 1 (natG .u32 (canon n_6.2))]] [.box [.bool m, .sl (canon x).length 1 (natG .u32 (canon x))], .box [.bool n, .sl (canon y).length 1 (natG .u32 (canon y))], .box [.bool n_6.1, .sl (canon n_6.2).length 1 (natG .u32 (canon n_6.2))]])) (.ex (fun (x_1 : Nat × Nat) => eqL [AV.sl (canon y).length 1 (natG .u32 (canon y)), AV.sl (canon x).length 1 (natG .u32 (canon x))] [AV.sl (canon x_1.1).length 1 (natG .u32 (canon x_1.1)), AV.sl (canon x_1.2).length 1 (natG .u32 (canon x_1.2))] ∧ fits x_1.1 ∧ x_1.2 ≤ x_1.1) fun n_3 => .all (fun (d : Nat) => d = n_3.1 - n_3.2) fun n_4 => .ex (fun (x : Bool × Nat) => eqL [AV.bool n, AV.sl (canon n_4).length 1 (natG .u32 (canon n_4))] [AV.bool x.1, AV.sl (canon x.2).length 1 (natG .u32 (canon x.2))] ∧ True) fun n_5 => .all (fun (r : Bool × Nat) => r = (n_5.1 && decide (0 < n_5.2), n_5.2)) fun n_6 => .leaf (.ret [.agg [.bool n_6.1, .sl (canon n_6.2).length 1 (natG .u32 (canon n_6.2))]] [.box [.bool m, .sl (canon x).length 1 (natG .u32 (canon x))], .box [.bool n, .sl (canon y).length 1 (natG .u32 (canon y))], .box [.bool n_6.1, .sl (canon n_6.2).length 1 (natG .u32 (canon n_6.2))]])))) (by kernel_rfl) ?_
 simp only [Tree.holds, zc]
 have eL : ∀ a b : Nat, eqL [AV.sl (canon a).length 1 (natG .u32 (canon a)), AV.sl (canon b).length 1 (natG .u32 (canon b))] [AV.sl (canon a).length 1 (natG .u32 (canon a)), AV.sl (canon b).length 1 (natG .u32 (canon b))] := fun a b => ⟨⟨rfl, rfl, za _ _ _⟩, ⟨rfl, rfl, za _ _ _⟩, trivial⟩
 have eK : ∀ (b : Bool) (a : Nat), eqL [AV.bool b, AV.sl (canon a).length 1 (natG .u32 (canon a))] [AV.bool b, AV.sl (canon a).length 1 (natG .u32 (canon a))] := fun b a => ⟨rfl, ⟨rfl, rfl, za _ _ _⟩, trivial⟩
 have hcm : ∀ v, v = cmp3 x y → (0 ≤ v ↔ y ≤ x) := by
  rintro v rfl
  unfold cmp3
  split
  ·exact ⟨fun h => by omega, fun h => by omega⟩
  ·split
   ·exact ⟨fun h => by omega, fun h => by omega⟩
   ·exact ⟨fun h => by omega, fun h => by omega⟩
 refine ⟨fun h => ?_, fun h => ⟨(x, y), ⟨eL x y, by show (canon x).length < _; omega, by show (canon y).length < _; omega⟩, ⟨_, rfl⟩, ?_⟩⟩
 ·have h : m = n := by simpa using h
  refine ⟨(x, y), ⟨eL x y, h1, h2⟩, ⟨_, rfl⟩, ?_⟩
  rintro _ rfl
  refine ⟨(m, x + y), ⟨eK m _, trivial⟩, ⟨_, rfl⟩, ?_⟩
  rintro _ rfl
  have e : sumS m x n y = (m, x + y) := if_pos h
  rw [e] at hq
  exact RetR.numV rfl hq
 ·have h : ¬ m = n := by simpa using h
  intro v hv
  have hv := hcm v hv
  refine ⟨fun g => ?_, fun g => ?_⟩
  ·have g : y ≤ x := hv.1 (of_decide_eq_true g)
   refine ⟨(x, y), ⟨eL x y, by show (canon x).length < _; omega, g⟩, ⟨_, rfl⟩, ?_⟩
   rintro _ rfl
   refine ⟨(m, x - y), ⟨eK m _, trivial⟩, ⟨_, rfl⟩, ?_⟩
   rintro _ rfl
   have e : sumS m x n y = (m, x - y) := by rw [sumS, if_neg h, if_pos g]
   rw [e] at hq
   exact RetR.numV rfl hq
  ·have g : ¬ y ≤ x := fun h3 => of_decide_eq_false g (hv.2 h3)
   refine ⟨(y, x), ⟨eL y x, by show (canon y).length < _; omega, by show x ≤ y; omega⟩, ⟨_, rfl⟩, ?_⟩
   rintro _ rfl
   refine ⟨(n, y - x), ⟨eK n _, trivial⟩, ⟨_, rfl⟩, ?_⟩
   rintro _ rfl
   have e : sumS m x n y = (n, y - x) := by rw [sumS, if_neg h, if_neg g]
   rw [e] at hq
   exact RetR.numV rfl hq
theorem qh {x n : Nat} (h : x < B ^ n) (hn : n < 100000) : (canon x).length < 100000 := by have := zw h; omega
theorem qY {s : List UInt8} (h : errI s = 0) : numI s < B ^ 112 := jk.2 (xF h)
theorem UH {x y : Nat} (hx : x < B ^ 112) (hy : y < B ^ 112) : x + y < B ^ 113 ∧ x * y < B ^ 224 := by
 constructor
 ·have : B ^ 113 = B ^ 112 * B := Nat.pow_succ B 112
  have hB : B = 1000000000 := rfl
  generalize B ^ 112 = p at *
  rw [this, hB]; omega
 ·have : B ^ 224 = B ^ 112 * B ^ 112 := by rw [← Nat.pow_add]
  rw [this]
  exact Nat.mul_lt_mul_of_lt_of_lt hx hy
noncomputable def GAd : Nat → Option Ctr := fun f => if f = 74 then some (ux) else if f = 84 then some (sumC) else if f = 75 then some (uR) else if f = 76 then some (KS) else if f = 77 then some (yq) else none
theorem Kd : ∀ g c, GAd g = some c → zd Tryz.prog g c := okIf JK (okIf zg3 (okIf Z9 (okIf WM (okIf xH (zp)))))
def addC : Ctr := ctrP true (fun p : List UInt8 × List UInt8 => [.str p.1, .str p.2]) (fun p => p.1.length < 2 ^ 62 ∧ p.2.length < 2 ^ 62) (fun p r => r = addI p.1 p.2) (fun _ r => (.tup [.str r.1, .int .i64 r.2], []))
def mulC : Ctr := ctrP true (fun p : List UInt8 × List UInt8 => [.str p.1, .str p.2]) (fun p => p.1.length < 2 ^ 62 ∧ p.2.length < 2 ^ 62) (fun p r => r = mulI p.1 p.2) (fun _ r => (.tup [.str r.1, .int .i64 r.2], []))
def zdw : Ctr := ctrP true (fun p : List UInt8 × List UInt8 => [.str p.1, .str p.2]) (fun p => p.1.length < 2 ^ 62 ∧ p.2.length < 2 ^ 62) (fun p r => r = uz p.1 p.2) (fun _ r => (.tup [.int .i64 r.1, .int .i64 r.2], []))
theorem zf2 : zd Tryz.prog 61 addC := by
 refine ze (fn := Tryz.f61) (c := Tryz.f61.body.getD .skip) rfl rfl rfl fun p hp O w0 Q hq => ?_
 obtain ⟨s, t⟩ := p
 obtain ⟨hs, ht⟩ := hp
 replace hq := hq _ rfl
 simp only at hs ht hq
 refine zb.run hmix Kd [] 400 (T := .ex (fun (x : List UInt8 × List UInt8) => eqL [AV.str s, AV.str t] [AV.str x.1, AV.str x.2] ∧ x.1.length < 4611686018427387904 ∧ x.2.length < 4611686018427387904) fun n => .all (fun (r : Int × (Bool × Nat) × Bool × Nat) => r = if zo n.1 n.2 = 0 then ((0 : Int), (negI n.1, numI n.1), negI n.2, numI n.2) else (zo n.1 n.2, (false, 0), false, 0)) fun n => .ite (!decide (n.1 = 0)) (.leaf (.ret [.str (Array.toList #[]), .int .i64 n.1] [.box [.bool n.2.1.1, .sl (canon n.2.1.2).length 1 (natG .u32 (canon n.2.1.2))], .box [.bool n.2.2.1, .sl (canon n.2.2.2).length 1 (natG .u32 (canon n.2.2.2))]])) (.ex (fun (x : (Bool × Nat) × Bool × Nat) => eqL [AV.agg [AV.bool n.2.1.1, AV.sl (canon n.2.1.2).length 1 (natG .u32 (canon n.2.1.2))], AV.agg [AV.bool n.2.2.1, AV.sl (canon n.2.2.2).length 1 (natG .u32 (canon n.2.2.2))]] [AV.agg [AV.bool x.1.1, AV.sl (canon x.1.2).length 1 (natG .u32 (canon x.1.2))], AV.agg [AV.bool x.2.1, AV.sl (canon x.2.2).length 1 (natG .u32 (canon x.2.2))]] ∧ List.length (canon x.1.2) < 100000 ∧ List.length (canon x.2.2) < 100000) fun n_1 => .all (fun (r : Bool × Nat) => r = (Prod.fst (sumS n_1.1.1 n_1.1.2 n_1.2.1 n_1.2.2) && decide (0 < Prod.snd (sumS n_1.1.1 n_1.1.2 n_1.2.1 n_1.2.2)), Prod.snd (sumS n_1.1.1 n_1.1.2 n_1.2.1 n_1.2.2))) fun n_2 => .ex (fun (x : Bool × Nat) => eqL [AV.agg [AV.bool n_2.1, AV.sl (canon n_2.2).length 1 (natG .u32 (canon n_2.2))]] [AV.agg [AV.bool x.1, AV.sl (canon x.2).length 1 (natG .u32 (canon x.2))]] ∧ List.length (canon x.2) < 1000000) fun n_3 => .all (fun (r : List UInt8 × Int) => r = wr n_3.1 n_3.2) fun n_4 => .leaf (.ret [.str n_4.1, .int .i64 n_4.2] [.box [.bool n.2.1.1, .sl (canon n.2.1.2).length 1 (natG .u32 (canon n.2.1.2))], .box [.bool n.2.2.1, .sl (canon n.2.2.2).length 1 (natG .u32 (canon n.2.2.2))]]))) (by kernel_rfl) ?_
 simp only [Tree.holds, zc]
 refine ⟨(s, t), ⟨by simp, by omega, by omega⟩, ⟨_, rfl⟩, ?_⟩
 rintro _ rfl
 simp only
 by_cases he : zo s t = 0
 ·obtain ⟨e1, e2⟩ := zl.1 he
  obtain ⟨b1, b2⟩ := UH (qY e1) (qY e2)
  have c1 := qh (qY e1) (by decide)
  have c2 := qh (qY e2) (by decide)
  simp only [if_pos he]
  refine ⟨fun h => (by simp at h), fun _ => ?_⟩
  refine ⟨((negI s, numI s), (negI t, numI t)), ⟨⟨⟨rfl, ⟨rfl, rfl, za _ _ _⟩, trivial⟩, ⟨rfl, ⟨rfl, rfl, za _ _ _⟩, trivial⟩, trivial⟩, c1, c2⟩, ⟨_, rfl⟩, ?_⟩
  rintro _ rfl
  refine ⟨((sumS (negI s) (numI s) (negI t) (numI t)).1 && decide (0 < (sumS (negI s) (numI s) (negI t) (numI t)).2), (sumS (negI s) (numI s) (negI t) (numI t)).2), ⟨⟨⟨rfl, ⟨rfl, rfl, za _ _ _⟩, trivial⟩, trivial⟩, ?_⟩, ⟨_, rfl⟩, ?_⟩
  ·have := qh (Nat.lt_of_le_of_lt (zd7 (negI s) (numI s) (negI t) (numI t)) b1) (by decide)
   show (canon (sumS (negI s) (numI s) (negI t) (numI t)).2).length < 1000000
   omega
  rintro _ rfl
  rw [zdd]
  have e : addI s t = wr (sumS (negI s) (numI s) (negI t) (numI t)).1 (sumS (negI s) (numI s) (negI t) (numI t)).2 := if_pos he
  rw [e] at hq
  exact RetR.scal hq rfl (by simp [resV])
 ·simp only [if_neg he]
  refine ⟨fun _ => ?_, fun h => (by simp [he] at h)⟩
  have e : addI s t = ([], zo s t) := if_neg he
  rw [e] at hq
  exact RetR.scal hq rfl (by simp [resV])
theorem zfs : zd Tryz.prog 47 mulC := by
 refine ze (fn := Tryz.f47) (c := Tryz.f47.body.getD .skip) rfl rfl rfl fun p hp O w0 Q hq => ?_
 obtain ⟨s, t⟩ := p
 obtain ⟨hs, ht⟩ := hp
 replace hq := hq _ rfl
 simp only at hs ht hq
 refine zb.run hmix Kd [] 400 (T := .ex (fun (x : List UInt8 × List UInt8) => eqL [AV.str s, AV.str t] [AV.str x.1, AV.str x.2] ∧ x.1.length < 4611686018427387904 ∧ x.2.length < 4611686018427387904) fun n => .all (fun (r : Int × (Bool × Nat) × Bool × Nat) => r = if zo n.1 n.2 = 0 then ((0 : Int), (negI n.1, numI n.1), negI n.2, numI n.2) else (zo n.1 n.2, (false, 0), false, 0)) fun n => .ite (!decide (n.1 = 0)) (.leaf (.ret [.str (Array.toList #[]), .int .i64 n.1] [.box [.bool n.2.1.1, .sl (canon n.2.1.2).length 1 (natG .u32 (canon n.2.1.2))], .box [.bool n.2.2.1, .sl (canon n.2.2.2).length 1 (natG .u32 (canon n.2.2.2))]])) (.ex (fun (x : Nat × Nat) => eqL [AV.sl (canon n.2.1.2).length 1 (natG .u32 (canon n.2.1.2)), AV.sl (canon n.2.2.2).length 1 (natG .u32 (canon n.2.2.2))] [AV.sl (canon x.1).length 1 (natG .u32 (canon x.1)), AV.sl (canon x.2).length 1 (natG .u32 (canon x.2))] ∧ fits x.1 ∧ fits x.2) fun n_1 => .all (fun (p : Nat) => p = n_1.1 * n_1.2) fun n_2 => .ex (fun (x : Bool × Nat) => eqL [AV.agg [AV.bool !Prod.fst n.2.1 == n.2.2.1, AV.sl (canon n_2).length 1 (zg (natG .u32 (padN (List.length (canon n_1.1) + List.length (canon n_1.2)) n_2)) 0)]] [AV.agg [AV.bool x.1, AV.sl (canon x.2).length 1 (natG .u32 (canon x.2))]] ∧ List.length (canon x.2) < 1000000) fun n_3 => .all (fun (r : List UInt8 × Int) => r = wr n_3.1 n_3.2) fun n_4 => .leaf (.ret [.str n_4.1, .int .i64 n_4.2] [.box [.bool n.2.1.1, .sl (canon n.2.1.2).length 1 (natG .u32 (canon n.2.1.2))], .box [.bool n.2.2.1, .sl (canon n.2.2.2).length 1 (natG .u32 (canon n.2.2.2))], .arr (List.length (canon n_1.1) + List.length (canon n_1.2)) 1 (natG .u32 (padN (List.length (canon n_1.1) + List.length (canon n_1.2)) n_2))]))) (by kernel_rfl) ?_
 simp only [Tree.holds, zc]
 refine ⟨(s, t), ⟨by simp, by omega, by omega⟩, ⟨_, rfl⟩, ?_⟩
 rintro _ rfl
 simp only
 by_cases he : zo s t = 0
 ·obtain ⟨e1, e2⟩ := zl.1 he
  obtain ⟨b1, b2⟩ := UH (qY e1) (qY e2)
  have c1 := qh (qY e1) (by decide)
  have c2 := qh (qY e2) (by decide)
  simp only [if_pos he]
  refine ⟨fun h => (by simp at h), fun _ => ?_⟩
  refine ⟨(numI s, numI t), ⟨⟨⟨rfl, rfl, za _ _ _⟩, ⟨rfl, rfl, za _ _ _⟩, trivial⟩, by show (canon (numI s)).length < 1000000; omega, by show (canon (numI t)).length < 1000000; omega⟩, ⟨_, rfl⟩, ?_⟩
  rintro _ rfl
  refine ⟨(negI s != negI t, numI s * numI t), ⟨⟨⟨rfl, ⟨rfl, rfl, fun j o hj ho => by simp only [zg, natG, Nat.zero_add, padN, ka hj]⟩, trivial⟩, trivial⟩, ?_⟩, ⟨_, rfl⟩, ?_⟩
  ·have := qh b2 (by decide)
   show (canon (numI s * numI t)).length < 1000000
   omega
  rintro _ rfl
  have e : mulI s t = wr (negI s != negI t) (numI s * numI t) := if_pos he
  rw [e] at hq
  exact RetR.scal hq rfl (by simp [resV])
 ·simp only [if_neg he]
  refine ⟨fun _ => ?_, fun h => (by simp [he] at h)⟩
  have e : mulI s t = ([], zo s t) := if_neg he
  rw [e] at hq
  exact RetR.scal hq rfl (by simp [resV])
theorem zdb : zd Tryz.prog 48 zdw := by
 refine ze (fn := Tryz.f48) (c := Tryz.f48.body.getD .skip) rfl rfl rfl fun p hp O w0 Q hq => ?_
 obtain ⟨s, t⟩ := p
 obtain ⟨hs, ht⟩ := hp
 replace hq := hq _ rfl
 simp only at hs ht hq
 refine zb.run hmix Kd [] 400 (T := .ex (fun (x : List UInt8 × List UInt8) => eqL [AV.str s, AV.str t] [AV.str x.1, AV.str x.2] ∧ x.1.length < 4611686018427387904 ∧ x.2.length < 4611686018427387904) fun n => .all (fun (r : Int × (Bool × Nat) × Bool × Nat) => r = if zo n.1 n.2 = 0 then ((0 : Int), (negI n.1, numI n.1), negI n.2, numI n.2) else (zo n.1 n.2, (false, 0), false, 0)) fun n => .ite (!decide (n.1 = 0)) (.leaf (.ret [.int .i64 0, .int .i64 n.1] [.box [.bool n.2.1.1, .sl (canon n.2.1.2).length 1 (natG .u32 (canon n.2.1.2))], .box [.bool n.2.2.1, .sl (canon n.2.2.2).length 1 (natG .u32 (canon n.2.2.2))]])) (.ite (bif n.2.1.1 then !Prod.fst n.2.2 else false) (.leaf (.ret [.int .i64 (-1 : Int), .int .i64 0] [.box [.bool n.2.1.1, .sl (canon n.2.1.2).length 1 (natG .u32 (canon n.2.1.2))], .box [.bool n.2.2.1, .sl (canon n.2.2.2).length 1 (natG .u32 (canon n.2.2.2))]])) (.ite (bif n.2.2.1 then !Prod.fst n.2.1 else false) (.leaf (.ret [.int .i64 1, .int .i64 0] [.box [.bool n.2.1.1, .sl (canon n.2.1.2).length 1 (natG .u32 (canon n.2.1.2))], .box [.bool n.2.2.1, .sl (canon n.2.2.2).length 1 (natG .u32 (canon n.2.2.2))]])) (.ite n.2.1.1 (.ex (fun (x : Nat × Nat) => eqL [AV.sl (canon n.2.2.2).length 1 (natG .u32 (canon n.2.2.2)), AV.sl (canon n.2.1.2).length 1 (natG .u32 (canon n.2.1.2))] [AV.sl (canon x.1).length 1 (natG .u32 (canon x.1)), AV.sl (canon x.2).length 1 (natG .u32 (canon x.2))] ∧ fits x.1 ∧ fits x.2) fun n_1 => .all (fun (r : Int) => r = cmp3 n_1.1 n_1.2) fun n_2 => .leaf (.ret [.int .i64 n_2, .int .i64 0] [.box [.bool n.2.1.1, .sl (canon n.2.1.2).length 1 (natG .u32 (canon n.2.1.2))], .box [.bool n.2.2.1, .sl (canon n.2.2.2).length 1 (natG .u32 (canon n.2.2.2))]])) (.ex (fun (x : Nat × Nat) => eqL [AV.sl (canon n.2.1.2).length 1 (natG .u32 (canon n.2.1.2)), AV.sl (canon n.2.2.2).length 1 (natG .u32 (canon n.2.2.2))] [AV.sl (canon x.1).length 1 (natG .u32 (canon x.1)), AV.sl (canon x.2).length 1 (natG .u32 (canon x.2))] ∧ fits x.1 ∧ fits x.2) fun n_1 => .all (fun (r : Int) => r = cmp3 n_1.1 n_1.2) fun n_2 => .leaf (.ret [.int .i64 n_2, .int .i64 0] [.box [.bool n.2.1.1, .sl (canon n.2.1.2).length 1 (natG .u32 (canon n.2.1.2))], .box [.bool n.2.2.1, .sl (canon n.2.2.2).length 1 (natG .u32 (canon n.2.2.2))]])))))) (by kernel_rfl) ?_
 simp only [Tree.holds, zc]
 refine ⟨(s, t), ⟨by simp, by omega, by omega⟩, ⟨_, rfl⟩, ?_⟩
 rintro _ rfl
 simp only
 by_cases he : zo s t = 0
 ·obtain ⟨e1, e2⟩ := zl.1 he
  obtain ⟨b1, b2⟩ := UH (qY e1) (qY e2)
  have c1 := qh (qY e1) (by decide)
  have c2 := qh (qY e2) (by decide)
  simp only [if_pos he]
  refine ⟨fun h => (by simp at h), fun _ => ?_⟩
  have e : uz s t = (cmpZ (negI s) (numI s) (negI t) (numI t), 0) := if_pos he
  rw [e] at hq
  have ec : ∀ a b : Nat, cmp3 a b = cmpN a b := fun _ _ => rfl
  simp only [cmpZ] at hq
  have f1 : fits (numI s) := by show (canon (numI s)).length < 1000000; omega
  have f2 : fits (numI t) := by show (canon (numI t)).length < 1000000; omega
  refine ⟨fun h => ?_, fun h1 => ⟨fun h => ?_, fun h2 => ⟨fun h => ⟨(numI t, numI s), ⟨⟨⟨rfl, rfl, za _ _ _⟩, ⟨rfl, rfl, za _ _ _⟩, trivial⟩, f2, f1⟩, ⟨_, rfl⟩, ?_⟩, fun h => ⟨(numI s, numI t), ⟨⟨⟨rfl, rfl, za _ _ _⟩, ⟨rfl, rfl, za _ _ _⟩, trivial⟩, f1, f2⟩, ⟨_, rfl⟩, ?_⟩⟩⟩⟩
  ·cases hm : negI s <;> cases hn : negI t <;> rw [hm, hn] at h hq <;> first | (cases h; done) | exact RetR.scal hq rfl (by simp [resV])
  ·cases hm : negI s <;> cases hn : negI t <;> rw [hm, hn] at h h1 hq <;> first | (cases h; done) | (cases h1; done) | exact RetR.scal hq rfl (by simp [resV])
  ·rintro _ rfl
   rw [ec]
   cases hm : negI s <;> cases hn : negI t <;> rw [hm, hn] at h1 h2 hq <;> rw [hm] at h <;> first | (cases h; done) | (cases h1; done) | (cases h2; done) | exact RetR.scal hq rfl (by simp [resV])
  ·rintro _ rfl
   rw [ec]
   cases hm : negI s <;> cases hn : negI t <;> rw [hm, hn] at h1 h2 hq <;> rw [hm] at h <;> first | (cases h; done) | (cases h1; done) | (cases h2; done) | exact RetR.scal hq rfl (by simp [resV])
 ·simp only [if_neg he]
  refine ⟨fun _ => ?_, fun h => (by simp [he] at h)⟩
  have e : uz s t = (0, zo s t) := if_neg he
  rw [e] at hq
  exact RetR.scal hq rfl (by simp [resV])
end Go.Proofs.Tryz
end

/- Rationals as they are written. -/
section
namespace Go.Nov
def ur (neg : Bool) (x y : Nat) : List UInt8 :=
 if y / Nat.gcd x y = 1 then (wr neg (x / Nat.gcd x y)).1 else (wr neg (x / Nat.gcd x y)).1 ++ [47] ++ (wr false (y / Nat.gcd x y)).1
def qC (n d : List UInt8) : List UInt8 × Int := if zo n d ≠ 0 then ([], zo n d) else if numI d = 0 then ([], 16) else (ur (negI n != negI d) (numI n) (numI d), 0)
def qj (a b : List UInt8) : Int := if errR a = 0 then errR b else errR a
def numR (a : List UInt8) : List UInt8 := (cutR a).1
def denR (a : List UInt8) : List UInt8 := if (cutR a).2.2 then (cutR a).2.1 else [49]
def frac (z w : List UInt8 × Int) : List UInt8 × Int := if z.2 ≠ 0 ∨ w.2 ≠ 0 then ([], 14) else qC z.1 w.1
def zE (a b : List UInt8) : Int := if qj a b ≠ 0 then qj a b else if (mulI (numR a) (denR b)).2 ≠ 0 ∨ (mulI (numR b) (denR a)).2 ≠ 0 then 14 else 0
def addR (a b : List UInt8) : List UInt8 × Int := if zE a b ≠ 0 then ([], zE a b) else frac (addI (mulI (numR a) (denR b)).1 (mulI (numR b) (denR a)).1) (mulI (denR a) (denR b))
def subR (a b : List UInt8) : List UInt8 × Int := if zE a b ≠ 0 then ([], zE a b) else frac (subI (mulI (numR a) (denR b)).1 (mulI (numR b) (denR a)).1) (mulI (denR a) (denR b))
def mulR (a b : List UInt8) : List UInt8 × Int := if qj a b ≠ 0 then ([], qj a b) else frac (mulI (numR a) (numR b)) (mulI (denR a) (denR b))
def cmpR (a b : List UInt8) : Int × Int := if zE a b ≠ 0 then (0, zE a b) else uz (mulI (numR a) (denR b)).1 (mulI (numR b) (denR a)).1
end Go.Nov
namespace Go.Nov
def dmQ (s t : List UInt8) : Nat := if negI s = true ∧ 0 < numI s % numI t then numI s / numI t + 1 else numI s / numI t
def dmM (s t : List UInt8) : Nat := if negI s = true ∧ 0 < numI s % numI t then numI t - numI s % numI t else numI s % numI t
def dmI (s t : List UInt8) : List UInt8 × List UInt8 × Int :=
 if zo s t ≠ 0 then ([], [], zo s t) else if numI t = 0 then ([], [], 16) else ((wr (negI s != negI t) (dmQ s t)).1, (wr false (dmM s t)).1, 0)
theorem zc3 {s : List UInt8} (h : errI s = 0) : ∃ k, k ≤ 1000 ∧ numI s < 10 ^ k := by
 obtain ⟨_, h1, _, h2⟩ := kE h
 exact ⟨_, h2, xj h1⟩
def room (x : Nat) : Prop := (dec x).length ≤ 1000
theorem room_le {x y : Nat} (h : x ≤ y) (hy : room y) : room x := by
 rcases Nat.lt_or_ge (dec y).length (dec x).length with h1 | h1
 ·have := Ten.zQ h1
  omega
 ·exact Nat.le_trans h1 hy
theorem qE {s : List UInt8} (h : errI s = 0) : room (numI s) := by
 obtain ⟨k, h1, h2⟩ := zc3 h
 exact Nat.le_trans (vO h2) h1
theorem w6 {neg : Bool} {x : Nat} (h : room x) : (wr neg x).2 = 0 := by
 unfold wr
 split
 ·rfl
 ·rw [if_neg (by have : (dec x).length ≤ 1000 := h; omega)]
theorem Vw {s t : List UInt8} (hs : errI s = 0) (ht : numI t ≠ 0) : room (dmQ s t) := by
 have h := qE hs
 unfold dmQ
 split
 ·rename_i hc
  by_cases h1 : numI t = 1
  ·rw [h1, Nat.mod_one] at hc; omega
  ·refine room_le ?_ h
   have h2 : numI s / numI t ≤ numI s / 2 := Nat.div_le_div_left (by omega) (by omega)
   have h3 : numI s ≠ 0 := fun h0 => by rw [h0, Nat.zero_mod] at hc; omega
   by_cases h4 : numI s = 1
   ·have : numI s / numI t = 0 := Nat.div_eq_of_lt (by omega)
    omega
   ·omega
 ·exact room_le (Nat.div_le_self _ _) h
theorem WS {s t : List UInt8} (ht : errI t = 0) (h0 : numI t ≠ 0) : room (dmM s t) := by
 have h := qE ht
 have hm := Nat.mod_lt (numI s) (Nat.pos_of_ne_zero h0)
 unfold dmM
 split
 ·exact room_le (Nat.sub_le _ _) h
 ·exact room_le (by omega) h
end Go.Nov
namespace Go.Nov
theorem vT : wr false 1 = ([49], 0) := by
 have h : dec 1 = [1] := by
  show Ten.canon 1 = [1]
  rw [Ten.qF (by decide)]
  exact congrArg (1 :: ·) Ten.zG
 simp [wr, h, txt, sgn, byt]
theorem Z6 {x : Nat} (h : room x) : (wr false x).1 = [49] ↔ x = 1 := by
 constructor
 ·intro e
  have := (Zi (w6 (neg := false) h)).2.1
  rw [e] at this
  exact this.symm
 ·rintro rfl
  rw [vT]
theorem zbo {x : Nat} (h0 : x ≠ 0) (h : room x) : [45] ++ (wr false x).1 = (wr true x).1 := by
 unfold wr
 rw [if_neg h0, if_neg h0, if_neg (by have : (dec x).length ≤ 1000 := h; omega), if_neg (by have : (dec x).length ≤ 1000 := h; omega)]
 rfl
theorem wM {t : List UInt8} (h : errI t = 0) : t = [48] ↔ numI t = 0 := by
 constructor
 ·rintro rfl; rfl
 ·intro h0
  obtain ⟨neg, b, h1, h2, h3, h4, h5, h6⟩ := uI h
  have hb : numD b = 0 := by simpa [numI, h2] using h0
  cases b with
  | nil => exact absurd rfl h5
  | cons c r =>
   have hc := h4 c (by simp)
   have e : numD (c :: r) = (c.toNat - 48) * 10 ^ r.length + numD r := by
    have := vj [c] r
    simp only [List.singleton_append] at this
    rw [this]
    simp [numD]
   rw [e] at hb
   have hc0 : c.toNat = 48 := by
    rcases Nat.eq_zero_or_pos (c.toNat - 48) with h7 | h7
    ·omega
    ·have := Nat.mul_pos h7 (Nat.pow_pos (n := r.length) (show 0 < 10 by decide))
     omega
   have hc1 : c = 48 := UInt8.toNat_inj.1 (by rw [hc0]; rfl)
   subst hc1
   have hr : r = [] := by
    cases r with
    | nil => rfl
    | cons d r =>
     have := wE (neg := neg) (b := 48 :: d :: r) rfl (by simp)
     rw [this] at h3; cases h3
   subst hr
   cases neg with
   | true => cases h3
   | false => simpa [sgn] using h1
theorem yw {s : List UInt8} {b : Bool} {g : Nat} (hs : errI s = 0) (h0 : g ≠ 0) (hg : room g) (hd : g ∣ numI s) : dmI s (wr b g).1 = ((wr (negI s != b) (numI s / g)).1, [48], 0) := by
 obtain ⟨h1, h2, h3⟩ := Zi (w6 (neg := b) hg)
 have hb : negI (wr b g).1 = b := by rw [h3]; simp [h0]
 have he : zo s (wr b g).1 = 0 := zl.2 ⟨hs, h1⟩
 have hm : numI s % g = 0 := Nat.mod_eq_zero_of_dvd hd
 unfold dmI
 rw [if_neg (by rw [he]; decide), h2, if_neg h0, hb]
 have hq : dmQ s (wr b g).1 = numI s / g := by
  unfold dmQ
  rw [h2, hm, if_neg (by omega)]
 have hr : dmM s (wr b g).1 = 0 := by
  unfold dmM
  rw [h2, hm, if_neg (by omega)]
 rw [hq, hr]
 rfl
theorem Z3 {s t : List UInt8} (ht : errI t = 0) (h0 : numI t ≠ 0) : Nat.gcd (numI s) (numI t) ≠ 0 ∧ room (Nat.gcd (numI s) (numI t)) := by
 have hp := Nat.pos_of_ne_zero h0
 refine ⟨fun h => ?_, room_le (Nat.le_of_dvd hp (Nat.gcd_dvd_right _ _)) (qE ht)⟩
 have := Nat.eq_zero_of_gcd_eq_zero_right h
 exact h0 this
theorem YB (neg : Bool) (x y : Nat) : (ur neg x y).length ≤ 2003 := by
 unfold ur
 have h1 := jc neg (x / Nat.gcd x y)
 have h2 := jc false (y / Nat.gcd x y)
 split
 ·omega
 ·simp only [List.length_append, List.length_cons, List.length_nil]; omega
end Go.Nov
namespace Go.Nov
theorem Vb : errI [49] = 0 := rfl
theorem q6 {a : List UInt8} (h : errR a = 0) : errI (numR a) = 0 ∧ errI (denR a) = 0 ∧ negI (denR a) = false ∧ numI (denR a) ≠ 0 := by
 unfold errR at h
 unfold numR denR
 cases hc : (cutR a).2.2 with
 | true =>
  rw [hc] at h
  simp only [if_true] at h ⊢
  split at h
  ·cases h
  ·rename_i h1
   simp only [not_or] at h1
   split at h
   ·cases h
   ·rename_i h2
    simp only [not_or, Classical.not_not] at h2
    refine ⟨h2.1, h2.2, by simpa using h1.2.2.1, fun h0 => ?_⟩
    exact h1.2.2.2.1 ((wM h2.2).2 h0)
 | false =>
  rw [hc] at h
  simp only [Bool.false_eq_true, if_false] at h ⊢
  have : (cutR a).1 = a := by
   unfold cutR at hc ⊢
   split at hc
   ·cases hc
   ·rename_i hn; rw [if_neg hn]
  rw [this]
  exact ⟨h, Vb, rfl, by decide⟩
theorem v7 (a : List UInt8) : (numR a).length ≤ a.length := (uJ a).1
theorem wg (a : List UInt8) : (denR a).length ≤ a.length + 1 := by
 unfold denR
 split
 ·exact Nat.le_trans (uJ a).2 (Nat.le_succ _)
 ·simp
theorem wR {s t : List UInt8} (h : zo s t = 0) : (mulI s t).2 = 0 ∧ errI (mulI s t).1 = 0 ∨ mulI s t = ([], 14) := by
 unfold mulI
 rw [if_pos h]
 exact (Ky _ _).imp (fun h => ⟨h, (Zi h).1⟩) id
theorem UM {s t : List UInt8} (h : zo s t = 0) : (addI s t).2 = 0 ∧ errI (addI s t).1 = 0 ∨ addI s t = ([], 14) := by
 unfold addI
 rw [if_pos h]
 exact (Ky _ _).imp (fun h => ⟨h, (Zi h).1⟩) id
end Go.Nov
namespace Go.Nov
def stp (e : Int) (f : List UInt8 → List UInt8 → List UInt8 × Int) (x y : List UInt8) : List UInt8 × Int := if e ≠ 0 then ([], e) else f x y
theorem zd6 {e : Int} {f : List UInt8 → List UInt8 → List UInt8 × Int} {x y : List UInt8} (h : (f x y).1.length ≤ 1001) : (stp e f x y).1.length ≤ 1001 := by
 unfold stp
 split
 ·simp
 ·exact h
theorem zX {e : Int} (h : e ≠ 0) (f : List UInt8 → List UInt8 → List UInt8 × Int) (x y : List UInt8) : stp e f x y = ([], e) := if_pos h
theorem jM (f : List UInt8 → List UInt8 → List UInt8 × Int) (x y : List UInt8) : stp 0 f x y = f x y := if_neg (by simp)
def Zu (f : List UInt8 → List UInt8 → List UInt8 × Int) (a b : List UInt8) : List UInt8 × Int :=
 if zE a b ≠ 0 then ([], zE a b) else frac (f (mulI (numR a) (denR b)).1 (mulI (numR b) (denR a)).1) (mulI (denR a) (denR b))
section
variable {a b n m d c : List UInt8} {e : Int} (hp : (e ≠ 0 ∧ qj a b = e) ∨ (e = 0 ∧ errR a = 0 ∧ errR b = 0 ∧ n = numR a ∧ m = numR b ∧ d = denR a ∧ c = denR b))
include hp
theorem Vc {f : List UInt8 → List UInt8 → List UInt8 × Int} (hf : ∀ {s t : List UInt8}, zo s t = 0 → (f s t).2 = 0 ∧ errI (f s t).1 = 0 ∨ f s t = ([], 14)) {r1 r2 r3 r4 r5 : List UInt8 × Int}
  (h1 : r1 = stp e mulI n c) (h2 : r2 = stp r1.2 mulI m d) (h3 : r3 = stp r2.2 f r1.1 r2.1) (h4 : r4 = stp r3.2 mulI d c) (h5 : r5 = stp r4.2 qC r3.1 r4.1) : r5 = Zu f a b := by
 rcases hp with ⟨he, h2e⟩ | ⟨rfl, ha, hb, rfl, rfl, rfl, rfl⟩
 ·have hc : zE a b = e := by unfold zE; rw [if_pos (by rw [h2e]; exact he)]; exact h2e
  unfold Zu
  rw [hc, if_pos he]
  rw [zX he] at h1
  subst h1
  rw [zX he] at h2
  subst h2
  rw [zX he] at h3
  subst h3
  rw [zX he] at h4
  subst h4
  rw [h5, zX he]
 ·obtain ⟨a1, a2, _⟩ := q6 ha
  obtain ⟨b1, b2, _⟩ := q6 hb
  have he2 : qj a b = 0 := by unfold qj; rw [if_pos ha]; exact hb
  have e14 : (14 : Int) ≠ 0 := by decide
  rw [jM] at h1
  have hc : zE a b = if (mulI (numR a) (denR b)).2 ≠ 0 ∨ (mulI (numR b) (denR a)).2 ≠ 0 then 14 else 0 := by unfold zE; rw [if_neg (by rw [he2]; simp)]
  rcases wR (zl.2 ⟨a1, b2⟩) with ⟨g1, k1⟩ | g1
  ·rw [← h1] at g1 k1
   rw [g1, jM] at h2
   rcases wR (zl.2 ⟨b1, a2⟩) with ⟨g2, k2⟩ | g2
   ·rw [← h2] at g2 k2
    rw [g2, jM] at h3
    have hc0 : zE a b = 0 := by rw [hc, if_neg]; rw [← h1, ← h2, g1, g2]; simp
    unfold Zu
    rw [hc0, if_neg (by simp), ← h1, ← h2, ← h3]
    rcases hf (zl.2 ⟨k1, k2⟩) with ⟨g3, k3⟩ | g3
    ·rw [← h3] at g3 k3
     rw [g3, jM] at h4
     unfold frac
     rw [← h4, h5]
     rcases wR (zl.2 ⟨a2, b2⟩) with ⟨g4, k4⟩ | g4
     ·rw [← h4] at g4
      rw [g3, g4, if_neg (by simp), jM]
     ·rw [← h4] at g4
      rw [g4, if_pos (by simp), zX e14]
    ·rw [← h3] at g3
     have q4 : r4 = ([], 14) := by rw [h4, g3]; exact zX e14 _ _ _
     unfold frac
     rw [if_pos (by rw [g3]; simp), h5, q4, zX e14]
   ·rw [← h2] at g2
    have hc0 : zE a b = 14 := by rw [hc, if_pos]; rw [← h2, g2]; simp
    unfold Zu
    rw [hc0, if_pos e14]
    have q3 : r3 = ([], 14) := by rw [h3, g2]; exact zX e14 _ _ _
    have q4 : r4 = ([], 14) := by rw [h4, q3]; exact zX e14 _ _ _
    rw [h5, q4, zX e14]
  ·rw [← h1] at g1
   have hc0 : zE a b = 14 := by rw [hc, if_pos]; rw [← h1, g1]; simp
   unfold Zu
   rw [hc0, if_pos e14]
   have q2 : r2 = ([], 14) := by rw [h2, g1]; exact zX e14 _ _ _
   have q3 : r3 = ([], 14) := by rw [h3, q2]; exact zX e14 _ _ _
   have q4 : r4 = ([], 14) := by rw [h4, q3]; exact zX e14 _ _ _
   rw [h5, q4, zX e14]
theorem YM {x y z w : List UInt8} {r1 r2 r3 : List UInt8 × Int} (h1 : r1 = stp e mulI x y) (h2 : r2 = stp r1.2 mulI z w) (h3 : r3 = stp r2.2 qC r1.1 r2.1)
  (hv : errR a = 0 → errR b = 0 → zo x y = 0 ∧ zo z w = 0) : r3 = if qj a b ≠ 0 then ([], qj a b) else frac (mulI x y) (mulI z w) := by
 rcases hp with ⟨he, h2e⟩ | ⟨rfl, ha, hb, _⟩
 ·rw [h2e, if_pos he]
  rw [zX he] at h1
  subst h1
  rw [zX he] at h2
  subst h2
  rw [h3, zX he]
 ·obtain ⟨v1, v2⟩ := hv ha hb
  have he2 : qj a b = 0 := by unfold qj; rw [if_pos ha]; exact hb
  have e14 : (14 : Int) ≠ 0 := by decide
  rw [he2, if_neg (by simp)]
  rw [jM] at h1
  unfold frac
  rcases wR v1 with ⟨g1, _⟩ | g1
  ·rw [← h1] at g1 ⊢
   rw [g1, jM] at h2
   rcases wR v2 with ⟨g2, _⟩ | g2
   ·rw [← h2] at g2 ⊢
    rw [g1, g2, if_neg (by simp), h3, g2, jM]
   ·rw [← h2] at g2 ⊢
    rw [g2, if_pos (by simp), h3, g2, zX e14]
  ·rw [← h1] at g1 ⊢
   have q2 : r2 = ([], 14) := by rw [h2, g1]; exact zX e14 _ _ _
   rw [g1, if_pos (by simp), h3, q2, zX e14]
theorem Yf {r1 r2 : List UInt8 × Int} (h1 : r1 = stp e mulI n c) (h2 : r2 = stp r1.2 mulI m d) : (if r2.2 ≠ 0 then (0, r2.2) else uz r1.1 r2.1) = cmpR a b := by
 unfold cmpR
 rcases hp with ⟨he, h2e⟩ | ⟨rfl, ha, hb, rfl, rfl, rfl, rfl⟩
 ·have hc : zE a b = e := by unfold zE; rw [if_pos (by rw [h2e]; exact he)]; exact h2e
  rw [zX he] at h1
  subst h1
  rw [zX he] at h2
  subst h2
  rw [hc, if_pos he, if_pos he]
 ·obtain ⟨a1, a2, _⟩ := q6 ha
  obtain ⟨b1, b2, _⟩ := q6 hb
  have he2 : qj a b = 0 := by unfold qj; rw [if_pos ha]; exact hb
  have e14 : (14 : Int) ≠ 0 := by decide
  have hc : zE a b = if (mulI (numR a) (denR b)).2 ≠ 0 ∨ (mulI (numR b) (denR a)).2 ≠ 0 then 14 else 0 := by unfold zE; rw [if_neg (by rw [he2]; simp)]
  rw [jM] at h1
  rcases wR (zl.2 ⟨a1, b2⟩) with ⟨g1, k1⟩ | g1
  ·rw [← h1] at g1
   rw [g1, jM] at h2
   rcases wR (zl.2 ⟨b1, a2⟩) with ⟨g2, k2⟩ | g2
   ·rw [← h2] at g2
    have hc0 : zE a b = 0 := by rw [hc, if_neg]; rw [← h1, ← h2, g1, g2]; simp
    rw [hc0, if_neg (by rw [g2]; simp), if_neg (by simp), ← h1, ← h2]
   ·rw [← h2] at g2
    have hc0 : zE a b = 14 := by rw [hc, if_pos]; rw [← h2, g2]; simp
    rw [hc0, g2, if_pos e14, if_pos e14]
  ·rw [← h1] at g1
   have hc0 : zE a b = 14 := by rw [hc, if_pos]; rw [← h1, g1]; simp
   have q2 : r2 = ([], 14) := by rw [h2, g1]; exact zX e14 _ _ _
   rw [hc0, q2, if_pos e14, if_pos e14]
end
end Go.Nov
end

/- The integers: division; fractions. -/
section
set_option maxRecDepth 100000
open Go Go.Sx Go.Proofs Go.Nov
namespace Go.Proofs.Tryz
attribute [local simp] eqKV eqA eqA0 eqH eqB eqL eqL0
def dmC : Ctr := ctrP true (fun p : List UInt8 × List UInt8 => [.str p.1, .str p.2]) (fun p => p.1.length < 2 ^ 62 ∧ p.2.length < 2 ^ 62) (fun p r => r = dmI p.1 p.2) (fun _ r => (.tup [.str r.1, .str r.2.1, .int .i64 r.2.2], []))
noncomputable def GDm : Nat → Option Ctr := fun f => if f = 74 then some (ux) else if f = 80 then some (xQ) else if f = 104 then some (X5) else if f = 101 then some (JL) else if f = 75 then some (uR) else none
theorem zg5 : ∀ g c, GDm g = some c → zd Tryz.prog g c := okIf JK (okIf Jj (okIf XO (okIf Zk (okIf Z9 (zp)))))
theorem Yl : zd Tryz.prog 102 dmC := by
 refine ze (fn := Tryz.f102) (c := Tryz.f102.body.getD .skip) rfl rfl rfl fun p hp O w0 Q hq => ?_
 obtain ⟨s, t⟩ := p
 obtain ⟨hs, ht⟩ := hp
 replace hq := hq _ rfl
 simp only at hs ht hq
 refine zb.run hmix zg5 [] 400 (T := .ex (fun (x : List UInt8 × List UInt8) => eqL [AV.str s, AV.str t] [AV.str x.1, AV.str x.2] ∧ x.1.length < 4611686018427387904 ∧ x.2.length < 4611686018427387904) fun n => .all (fun (r : Int × (Bool × Nat) × Bool × Nat) => r = if zo n.1 n.2 = 0 then ((0 : Int), (negI n.1, numI n.1), negI n.2, numI n.2) else (zo n.1 n.2, (false, 0), false, 0)) fun n => .ite (!decide (n.1 = 0)) (.leaf (.ret [.str (Array.toList #[]), .str (Array.toList #[]), .int .i64 n.1] [.box [.bool n.2.1.1, .sl (canon n.2.1.2).length 1 (natG .u32 (canon n.2.1.2))], .box [.bool n.2.2.1, .sl (canon n.2.2.2).length 1 (natG .u32 (canon n.2.2.2))]])) (.ite (decide ((↑(canon n.2.2.2).length : Int) = 0)) (.leaf (.ret [.str (Array.toList #[]), .str (Array.toList #[]), .int .i64 16] [.box [.bool n.2.1.1, .sl (canon n.2.1.2).length 1 (natG .u32 (canon n.2.1.2))], .box [.bool n.2.2.1, .sl (canon n.2.2.2).length 1 (natG .u32 (canon n.2.2.2))]])) (.ex (fun (x : Nat × Nat) => eqL [AV.sl (canon n.2.1.2).length 1 (natG .u32 (canon n.2.1.2)), AV.sl (canon n.2.2.2).length 1 (natG .u32 (canon n.2.2.2))] [AV.sl (canon x.1).length 1 (natG .u32 (canon x.1)), AV.sl (canon x.2).length 1 (natG .u32 (canon x.2))] ∧ List.length (canon x.1) < 100000 ∧ List.length (canon x.2) < 100000 ∧ 0 < x.2) fun n_1 => .all (fun (r : Nat × Nat) => r = (n_1.1 / n_1.2, n_1.1 % n_1.2)) fun n_2 => .ite (bif n.2.1.1 then decide ((0 : Int) < (↑(canon n_2.2).length : Int)) else false) (.ex (fun (x : Nat × Nat) => eqL [AV.sl (canon n_2.1).length 1 (natG .u32 (canon n_2.1)), AV.sl 1 1 (zg (zf 1 [AV.int .u32 1]) 0)] [AV.sl (canon x.1).length 1 (natG .u32 (canon x.1)), AV.sl (canon x.2).length 1 (natG .u32 (canon x.2))] ∧ List.length (canon x.1) < 100000 ∧ List.length (canon x.2) < 100000) fun n_3 => .all (fun (d : Nat) => d = n_3.1 + n_3.2) fun n_4 => .ex (fun (x : Nat × Nat) => eqL [AV.sl (canon n.2.2.2).length 1 (natG .u32 (canon n.2.2.2)), AV.sl (canon n_2.2).length 1 (natG .u32 (canon n_2.2))] [AV.sl (canon x.1).length 1 (natG .u32 (canon x.1)), AV.sl (canon x.2).length 1 (natG .u32 (canon x.2))] ∧ fits x.1 ∧ x.2 ≤ x.1) fun n_5 => .all (fun (d : Nat) => d = n_5.1 - n_5.2) fun n_6 => .ex (fun (x : Bool × Nat) => eqL [AV.agg [AV.bool !Prod.fst n.2.1 == n.2.2.1, AV.sl (canon n_4).length 1 (natG .u32 (canon n_4))]] [AV.agg [AV.bool x.1, AV.sl (canon x.2).length 1 (natG .u32 (canon x.2))]] ∧ List.length (canon x.2) < 1000000) fun n_7 => .all (fun (r : List UInt8 × Int) => r = wr n_7.1 n_7.2) fun n_8 => .ite (!decide (n_8.2 = 0)) (.leaf (.ret [.str (Array.toList #[]), .str (Array.toList #[]), .int .i64 n_8.2] [.box [.bool n.2.1.1, .sl (canon n.2.1.2).length 1 (natG .u32 (canon n.2.1.2))], .box [.bool n.2.2.1, .sl (canon n.2.2.2).length 1 (natG .u32 (canon n.2.2.2))], .arr 1 1 (zf 1 [.int .u32 1])])) (.ex (fun (x : Bool × Nat) => eqL [AV.agg [AV.bool false, AV.sl (canon n_6).length 1 (natG .u32 (canon n_6))]] [AV.agg [AV.bool x.1, AV.sl (canon x.2).length 1 (natG .u32 (canon x.2))]] ∧ List.length (canon x.2) < 1000000) fun n_9 => .all (fun (r : List UInt8 × Int) => r = wr n_9.1 n_9.2) fun n_10 => .leaf (.ret [.str n_8.1, .str n_10.1, .int .i64 0] [.box [.bool n.2.1.1, .sl (canon n.2.1.2).length 1 (natG .u32 (canon n.2.1.2))], .box [.bool n.2.2.1, .sl (canon n.2.2.2).length 1 (natG .u32 (canon n.2.2.2))], .arr 1 1 (zf 1 [.int .u32 1])]))) (.ex (fun (x : Bool × Nat) => eqL [AV.agg [AV.bool !Prod.fst n.2.1 == n.2.2.1, AV.sl (canon n_2.1).length 1 (natG .u32 (canon n_2.1))]] [AV.agg [AV.bool x.1, AV.sl (canon x.2).length 1 (natG .u32 (canon x.2))]] ∧ List.length (canon x.2) < 1000000) fun n_3 => .all (fun (r : List UInt8 × Int) => r = wr n_3.1 n_3.2) fun n_4 => .ite (!decide (n_4.2 = 0)) (.leaf (.ret [.str (Array.toList #[]), .str (Array.toList #[]), .int .i64 n_4.2] [.box [.bool n.2.1.1, .sl (canon n.2.1.2).length 1 (natG .u32 (canon n.2.1.2))], .box [.bool n.2.2.1, .sl (canon n.2.2.2).length 1 (natG .u32 (canon n.2.2.2))]])) (.ex (fun (x : Bool × Nat) => eqL [AV.agg [AV.bool false, AV.sl (canon n_2.2).length 1 (natG .u32 (canon n_2.2))]] [AV.agg [AV.bool x.1, AV.sl (canon x.2).length 1 (natG .u32 (canon x.2))]] ∧ List.length (canon x.2) < 1000000) fun n_5 => .all (fun (r : List UInt8 × Int) => r = wr n_5.1 n_5.2) fun n_6 => .leaf (.ret [.str n_4.1, .str n_6.1, .int .i64 0] [.box [.bool n.2.1.1, .sl (canon n.2.1.2).length 1 (natG .u32 (canon n.2.1.2))], .box [.bool n.2.2.1, .sl (canon n.2.2.2).length 1 (natG .u32 (canon n.2.2.2))]])))))) (by kernel_rfl) ?_
 simp only [Tree.holds, zc]
 refine ⟨(s, t), ⟨by simp, by omega, by omega⟩, ⟨_, rfl⟩, ?_⟩
 rintro _ rfl
 simp only
 by_cases he : zo s t = 0
 ·obtain ⟨e1, e2⟩ := zl.1 he
  have c1 := qh (qY e1) (by decide)
  have c2 := qh (qY e2) (by decide)
  simp only [if_pos he]
  refine ⟨fun h => (by simp at h), fun _ => ?_⟩
  refine ⟨fun h0 => ?_, fun h0 => ?_⟩
  ·have h0 : numI t = 0 := xp.1 (by have := of_decide_eq_true h0; omega)
   have e : dmI s t = ([], [], 16) := by rw [dmI, if_neg (by rw [he]; decide), if_pos h0]
   rw [e] at hq
   exact RetR.scal hq rfl (by simp [resV])
  have h0 : numI t ≠ 0 := fun h => of_decide_eq_false h0 (by rw [xp.2 h]; rfl)
  have e : dmI s t = ((wr (negI s != negI t) (dmQ s t)).1, (wr false (dmM s t)).1, 0) := by rw [dmI, if_neg (by rw [he]; decide), if_neg h0]
  rw [e] at hq
  have rq := Vw e1 h0
  have rm := WS (s := s) e2 h0
  have eL : ∀ a b : Nat, eqL [AV.sl (canon a).length 1 (natG .u32 (canon a)), AV.sl (canon b).length 1 (natG .u32 (canon b))] [AV.sl (canon a).length 1 (natG .u32 (canon a)), AV.sl (canon b).length 1 (natG .u32 (canon b))] := fun a b => ⟨⟨rfl, rfl, za _ _ _⟩, ⟨rfl, rfl, za _ _ _⟩, trivial⟩
  have eV : ∀ (b : Bool) (a : Nat), eqL [.agg [AV.bool b, AV.sl (canon a).length 1 (natG .u32 (canon a))]] [.agg [AV.bool b, AV.sl (canon a).length 1 (natG .u32 (canon a))]] := fun b a => ⟨⟨rfl, ⟨rfl, rfl, za _ _ _⟩, trivial⟩, trivial⟩
  have big : ∀ {a : Nat}, room a → (canon a).length < 1000000 := fun {a} h => by
   obtain ⟨h3, h4, _⟩ := Zi (w6 (neg := false) h)
   have := qh (qY h3) (by decide)
   rw [h4] at this; omega
  refine ⟨(numI s, numI t), ⟨eL _ _, c1, c2, Nat.pos_of_ne_zero h0⟩, ⟨_, rfl⟩, ?_⟩
  rintro _ rfl
  simp only
  rw [Wr]
  have hmod := Nat.mod_lt (numI s) (Nat.pos_of_ne_zero h0)
  refine ⟨fun hc => ?_, fun hc => ?_⟩
  ·have hc : negI s = true ∧ 0 < numI s % numI t := by
    cases hn : negI s with
    | false => rw [hn] at hc; cases hc
    | true => rw [hn] at hc; exact ⟨rfl, of_decide_eq_true hc⟩
   have eQ : dmQ s t = numI s / numI t + 1 := if_pos hc
   have eM : dmM s t = numI t - numI s % numI t := if_pos hc
   rw [eQ, eM] at hq
   rw [eQ] at rq
   rw [eM] at rm
   have hone : canon 1 = [1] := by
    rw [qF (by decide)]
    exact congrArg (1 :: ·) zG
   have rdiv := room_le (Nat.div_le_self (numI s) (numI t)) (qE e1)
   have hdl : (canon (numI s / numI t)).length < 100000 := by
    have := qh (Nat.lt_of_le_of_lt (Nat.div_le_self (numI s) (numI t)) (qY e1)) (by decide)
    exact this
   refine ⟨(numI s / numI t, 1), ⟨⟨⟨rfl, rfl, za _ _ _⟩, ⟨by rw [hone]; rfl, rfl, ?_⟩, trivial⟩, hdl, by show (canon 1).length < 100000; rw [hone]; decide⟩, ⟨_, rfl⟩, ?_⟩
   ·intro j o hj ho
    have : j = 0 := by omega
    subst this
    have : o = 0 := by omega
    subst this
    show AV.int .u32 1 = .int .u32 (((canon 1).getD 0 0 : Nat) : Int)
    rw [hone]; rfl
   rintro _ rfl
   refine ⟨(numI t, numI s % numI t), ⟨eL _ _, by show (canon (numI t)).length < 1000000; omega, by show numI s % numI t ≤ numI t; omega⟩, ⟨_, rfl⟩, ?_⟩
   rintro _ rfl
   refine ⟨(negI s != negI t, numI s / numI t + 1), ⟨eV _ _, big rq⟩, ⟨_, rfl⟩, ?_⟩
   rintro _ rfl
   have hz := w6 (neg := (negI s != negI t)) rq
   refine ⟨fun h => by simp [hz] at h, fun _ => ⟨(false, numI t - numI s % numI t), ⟨eV _ _, big rm⟩, ⟨_, rfl⟩, ?_⟩⟩
   rintro _ rfl
   exact RetR.scal hq rfl (by simp [resV])
  ·have hc : ¬ (negI s = true ∧ 0 < numI s % numI t) := by
    rintro ⟨g1, g2⟩
    rw [g1, decide_eq_true g2] at hc
    cases hc
   have eQ : dmQ s t = numI s / numI t := if_neg hc
   have eM : dmM s t = numI s % numI t := if_neg hc
   rw [eQ, eM] at hq
   rw [eQ] at rq
   rw [eM] at rm
   refine ⟨(negI s != negI t, numI s / numI t), ⟨eV _ _, big rq⟩, ⟨_, rfl⟩, ?_⟩
   rintro _ rfl
   have hz := w6 (neg := (negI s != negI t)) rq
   refine ⟨fun h => by simp [hz] at h, fun _ => ⟨(false, numI s % numI t), ⟨eV _ _, big rm⟩, ⟨_, rfl⟩, ?_⟩⟩
   rintro _ rfl
   exact RetR.scal hq rfl (by simp [resV])
 ·simp only [if_neg he]
  refine ⟨fun _ => ?_, fun h => (by simp [he] at h)⟩
  have e : dmI s t = ([], [], zo s t) := if_pos he
  rw [e] at hq
  exact RetR.scal hq rfl (by simp [resV])
def UU : Ctr := ctrP true (fun s : List UInt8 => [.str s]) (fun s => s.length < 2 ^ 62) (fun s r => r = if errR s = 0 then (numR s, denR s, 0) else ([], [], errR s)) (fun _ (r : List UInt8 × List UInt8 × Int) => (.tup [.str r.1, .str r.2.1, .int .i64 r.2.2], []))
noncomputable def GPa : Nat → Option Ctr := fun f => if f = 24 then some (uN) else if f = 51 then some (KK) else none
theorem zeu : ∀ g c, GPa g = some c → zd Tryz.prog g c := okIf yT (okIf WK (zp))
theorem U5 : zd Tryz.prog 72 UU := by
 refine ze (fn := Tryz.f72) (c := Tryz.f72.body.getD .skip) rfl rfl rfl fun s hs O w0 Q hq => ?_
 replace hq := hq _ rfl
 refine zb.run hmix zeu [] 400 (T := .ex (fun (x : List UInt8) => eqL [AV.str s] [AV.str x] ∧ x.length < 4611686018427387904) fun n => .all (fun (r : Int) => r = errR n) fun n => .ite (!decide (n = 0)) (.leaf (.ret [.str (Array.toList #[]), .str (Array.toList #[]), .int .i64 n] [])) (.ex (fun (x : List UInt8) => eqL [AV.str s] [AV.str x] ∧ x.length < 4611686018427387904) fun n => .all (fun (r : List UInt8 × List UInt8 × Bool) => r = cutR n) fun n => .ite (!Prod.snd n.2) (.leaf (.ret [.str n.1, .str (Array.toList #[(49 : UInt8)]), .int .i64 0] [])) (.leaf (.ret [.str n.1, .str n.2.1, .int .i64 0] [])))) (by kernel_rfl) ?_
 simp only [Tree.holds, zc]
 refine ⟨s, ⟨by simp, hs⟩, ⟨_, rfl⟩, ?_⟩
 rintro _ rfl
 refine ⟨fun h => ?_, fun h => ⟨s, ⟨by simp, hs⟩, ⟨_, rfl⟩, ?_⟩⟩
 ·have h : errR s ≠ 0 := by simpa using h
  rw [if_neg h] at hq
  exact RetR.scal hq rfl (by simp [resV])
 ·have h : errR s = 0 := by simpa using h
  rw [if_pos h] at hq
  rintro _ rfl
  refine ⟨fun g => ?_, fun g => ?_⟩
  ·have e : denR s = [49] := by unfold denR; rw [if_neg (by simpa using g)]
   rw [e] at hq
   exact RetR.scal hq rfl (by simp [resV, numR])
  ·have e : denR s = (cutR s).2.1 := by unfold denR; rw [if_pos (by simpa using g)]
   rw [e] at hq
   exact RetR.scal hq rfl (by simp [resV, numR])
def X7 : Ctr := ctrP true (fun p : List UInt8 × List UInt8 => [.str p.1, .str p.2]) (fun p => p.1.length < 2 ^ 62 ∧ p.2.length < 2 ^ 62) (fun p r => r = qC p.1 p.2) (fun _ r => (.tup [.str r.1, .int .i64 r.2], []))
noncomputable def GMk : Nat → Option Ctr := fun f => if f = 54 then some (gcdC) else if f = 102 then some (dmC) else none
theorem zfy : ∀ g c, GMk g = some c → zd Tryz.prog g c := okIf Uf (okIf Yl (zp))
theorem zci : zd Tryz.prog 83 X7 := by
 refine ze (fn := Tryz.f83) (c := Tryz.f83.body.getD .skip) rfl rfl rfl fun p hp O w0 Q hq => ?_
 obtain ⟨s, t⟩ := p
 obtain ⟨hs, ht⟩ := hp
 replace hq := hq _ rfl
 simp only at hs ht hq
 refine zb.run hmix zfy [] 400 (T := .ex (fun (x : List UInt8 × List UInt8) => eqL [AV.str s, AV.str t] [AV.str x.1, AV.str x.2] ∧ x.1.length < 4611686018427387904 ∧ x.2.length < 4611686018427387904) fun n => .all (fun (r : List UInt8 × Int) => r = gcdR n.1 n.2) fun n => .ite (!decide (n.2 = 0)) (.leaf (.ret [.str (Array.toList #[]), .int .i64 n.2] [])) (.ite (decide (t = Array.toList #[(48 : UInt8)])) (.leaf (.ret [.str (Array.toList #[]), .int .i64 16] [])) (.side ((0 : Int) ≤ 0 ∧ (0 : Int) < t.length) (.ite (decide ((↑(UInt8.toNat (List.getD t 0 (0 : UInt8))) : Int) = 45)) (.side (1 + n.1.length ≤ 9223372036854775807) (.ex (fun (x : List UInt8 × List UInt8) => eqL [AV.str s, AV.str (Array.toList #[(45 : UInt8)] ++ n.1)] [AV.str x.1, AV.str x.2] ∧ x.1.length < 4611686018427387904 ∧ x.2.length < 4611686018427387904) fun n_1 => .all (fun (r : List UInt8 × List UInt8 × Int) => r = dmI n_1.1 n_1.2) fun n_2 => .ex (fun (x : List UInt8 × List UInt8) => eqL [AV.str t, AV.str (Array.toList #[(45 : UInt8)] ++ n.1)] [AV.str x.1, AV.str x.2] ∧ x.1.length < 4611686018427387904 ∧ x.2.length < 4611686018427387904) fun n => .all (fun (r : List UInt8 × List UInt8 × Int) => r = dmI n.1 n.2) fun n => .ite (decide (n.1 = Array.toList #[(49 : UInt8)])) (.leaf (.ret [.str n_2.1, .int .i64 0] [])) (.side (n_2.1.length + 1 ≤ 9223372036854775807) (.side (List.length (n_2.1 ++ Array.toList #[(47 : UInt8)]) + n.1.length ≤ 9223372036854775807) (.leaf (.ret [.str (n_2.1 ++ Array.toList #[(47 : UInt8)] ++ n.1), .int .i64 0] [])))))) (.ex (fun (x : List UInt8 × List UInt8) => eqL [AV.str s, AV.str n.1] [AV.str x.1, AV.str x.2] ∧ x.1.length < 4611686018427387904 ∧ x.2.length < 4611686018427387904) fun n_1 => .all (fun (r : List UInt8 × List UInt8 × Int) => r = dmI n_1.1 n_1.2) fun n_2 => .ex (fun (x : List UInt8 × List UInt8) => eqL [AV.str t, AV.str n.1] [AV.str x.1, AV.str x.2] ∧ x.1.length < 4611686018427387904 ∧ x.2.length < 4611686018427387904) fun n => .all (fun (r : List UInt8 × List UInt8 × Int) => r = dmI n.1 n.2) fun n => .ite (decide (n.1 = Array.toList #[(49 : UInt8)])) (.leaf (.ret [.str n_2.1, .int .i64 0] [])) (.side (n_2.1.length + 1 ≤ 9223372036854775807) (.side (List.length (n_2.1 ++ Array.toList #[(47 : UInt8)]) + n.1.length ≤ 9223372036854775807) (.leaf (.ret [.str (n_2.1 ++ Array.toList #[(47 : UInt8)] ++ n.1), .int .i64 0] []))))))))) (by kernel_rfl) ?_
 simp only [Tree.holds, zc, inR, lo, hi, Int.toNat_natCast]
 refine ⟨(s, t), ⟨by simp, by omega, by omega⟩, ⟨_, rfl⟩, ?_⟩
 rintro _ rfl
 by_cases he : zo s t = 0
 ·obtain ⟨e1, e2⟩ := zl.1 he
  have eg : gcdR s t = wr false (Nat.gcd (numI s) (numI t)) := if_pos he
  by_cases h0 : numI t = 0
  ·have ht0 : t = [48] := (wM e2).2 h0
   have hg0 : Nat.gcd (numI s) (numI t) = numI s := by rw [h0, Nat.gcd_zero_right]
   have hz : (gcdR s t).2 = 0 := by rw [eg, hg0]; exact w6 (qE e1)
   have e : qC s t = ([], 16) := by rw [qC, if_neg (by rw [he]; decide), if_pos h0]
   rw [e] at hq
   refine ⟨fun h => (by simp [hz] at h), fun _ => ⟨fun _ => RetR.scal hq rfl (by simp [resV]), fun h => (by simp [ht0] at h)⟩⟩
  ·obtain ⟨g0, gr⟩ := Z3 (s := s) e2 h0
   have hz : (gcdR s t).2 = 0 := by rw [eg]; exact w6 gr
   have ht0 : t ≠ [48] := fun h => h0 ((wM e2).1 h)
   have htn : t ≠ [] := by rintro rfl; simp [ZT] at e2
   have hneg := yR htn
   have e : qC s t = (ur (negI s != negI t) (numI s) (numI t), 0) := by rw [qC, if_neg (by rw [he]; decide), if_neg h0]
   rw [e, ur] at hq
   have ds : Nat.gcd (numI s) (numI t) ∣ numI s := Nat.gcd_dvd_left _ _
   have dt : Nat.gcd (numI s) (numI t) ∣ numI t := Nat.gcd_dvd_right _ _
   generalize hgg : Nat.gcd (numI s) (numI t) = g at *
   have rt := room_le (Nat.div_le_self (numI t) g) (qE e2)
   have l1 := jc false g
   have l2 := jc true g
   have fin : ∀ b : Bool, b = negI t → ∀ (z w : List UInt8 × List UInt8 × Int), z = dmI s (wr b g).1 → w = dmI t (wr b g).1 →
     (decide (w.1 = [49]) = true → RetR X7 0 Q [.str z.1, .int .i64 0] []) ∧ (decide (w.1 = [49]) = false → z.1.length + 1 ≤ 9223372036854775807 ∧ (z.1.length + 1 ≤ 9223372036854775807 → (z.1 ++ [47]).length + w.1.length ≤ 9223372036854775807 ∧ ((z.1 ++ [47]).length + w.1.length ≤ 9223372036854775807 → RetR X7 0 Q [.str (z.1 ++ [47] ++ w.1), .int .i64 0] []))) := by
    rintro b rfl z w rfl rfl
    rw [yw e1 g0 gr ds, yw e2 g0 gr dt]
    simp only
    have : (negI t != negI t) = false := by simp
    rw [this]
    have k1 := jc (negI s != negI t) (numI s / g)
    have k2 := jc false (numI t / g)
    refine ⟨fun h => ?_, fun h => ⟨by omega, fun _ => ⟨by simp; omega, fun _ => ?_⟩⟩⟩
    ·have h1 := (Z6 rt).1 (of_decide_eq_true h)
     rw [if_pos h1] at hq
     exact RetR.scal hq rfl (by simp [resV])
    ·have h1 : ¬ numI t / g = 1 := fun h1 => of_decide_eq_false h ((Z6 rt).2 h1)
     rw [if_neg h1] at hq
     exact RetR.scal hq rfl (by simp [resV])
   rw [eg] at hz ⊢
   refine ⟨fun h => (by simp [hz] at h), fun _ => ⟨fun h => absurd (of_decide_eq_true h) ht0, fun _ => ⟨⟨by omega, by have := List.length_pos_iff.2 htn; omega⟩, fun _ => ⟨fun hb => ⟨by omega, fun _ => ?_⟩, fun hb => ?_⟩⟩⟩⟩
   ·have hn : negI t = true := by
     rw [hneg, decide_eq_true_eq]
     exact yg (of_decide_eq_true hb)
    rw [zbo g0 gr]
    refine ⟨(s, (wr true g).1), ⟨by simp, by show s.length < _; omega, by show (wr true g).1.length < _; omega⟩, ⟨_, rfl⟩, ?_⟩
    intro z hz
    refine ⟨(t, (wr true g).1), ⟨by simp, by show t.length < _; omega, by show (wr true g).1.length < _; omega⟩, ⟨_, rfl⟩, ?_⟩
    intro w hw
    exact fin true hn.symm z w hz hw
   ·have hn : negI t = false := by
     rw [hneg, decide_eq_false_iff_not]
     intro h
     apply of_decide_eq_false hb
     rw [h]; rfl
    refine ⟨(s, (wr false g).1), ⟨by simp, by show s.length < _; omega, by show (wr false g).1.length < _; omega⟩, ⟨_, rfl⟩, ?_⟩
    intro z hz
    refine ⟨(t, (wr false g).1), ⟨by simp, by show t.length < _; omega, by show (wr false g).1.length < _; omega⟩, ⟨_, rfl⟩, ?_⟩
    intro w hw
    exact fin false hn.symm z w hz hw
 ·have eg : gcdR s t = ([], zo s t) := if_neg he
  have e : qC s t = ([], zo s t) := if_pos he
  rw [e] at hq
  rw [eg]
  exact ⟨fun _ => RetR.scal hq rfl (by simp [resV]), fun h => by simp [he] at h⟩
end Go.Proofs.Tryz
end

/- Nil slices of a result, handed back as own empty ones. -/
section
namespace Go.Sx
variable [Stat]
section
variable {own own' O : Nat → Prop} {w w' : World} {σ σ' : List SE} {P : Program} {fn : Func}
def upA0 (d k : Nat) : AV → AV → Prop
 | .nils, .osl i _ off n => (d ≤ i ∧ i < d + k) ∧ off = 0 ∧ n = 0
 | a, b => a = b
def upL0 (d k : Nat) : List AV → List AV → Prop
 | [], [] => True
 | a :: l, b :: m => upA0 d k a b ∧ upL0 d k l m
 | _, _ => False
def upA1 (d k : Nat) : AV → AV → Prop
 | .agg l, .agg m => upL0 d k l m
 | a, b => upA0 d k a b
def upL1 (d k : Nat) : List AV → List AV → Prop
 | [], [] => True
 | a :: l, b :: m => upA1 d k a b ∧ upL1 d k l m
 | _, _ => False
def upA2 (d k : Nat) : AV → AV → Prop
 | .tup l, .tup m => upL1 d k l m
 | a, b => upA1 d k a b
def jx (k : Nat) : List SE := List.replicate k ⟨none, 0⟩
theorem uy.mono {g : Nat} {vals : Array Value} {R R' : Value → World → Prop} (hR : ∀ v w', R v w' → R' v w') (h : uy P g vals w R) : uy P g vals w R' := by
 rcases h with ⟨h1, h2⟩ | ⟨v, w', h1, h2⟩
 ·exact .inl ⟨h1, h2.mono fun e w' ⟨v, he, hv⟩ => ⟨v, he, hR v w' hv⟩⟩
 ·exact .inr ⟨v, w', h1, hR v w' h2⟩
theorem qI {k i : Nat} {e : SE} (h : (σ ++ jx k)[i]? = some e) : (i < σ.length ∧ σ[i]? = some e) ∨ (σ.length ≤ i ∧ e = ⟨none, 0⟩) := by
 rw [List.getElem?_append] at h
 split at h
 ·rename_i hi; exact .inl ⟨hi, h⟩
 ·rename_i hi
  right
  refine ⟨by omega, ?_⟩
  simp only [jx, List.getElem?_replicate] at h
  split at h
  ·cases h; rfl
  ·cases h
theorem ZD {k b : Nat} (h : Mine (σ ++ jx k) b) : Mine σ b := by
 obtain ⟨e, he, ad, h1, h2⟩ := h
 rcases List.mem_append.1 he with he | he
 ·exact ⟨e, he, ad, h1, h2⟩
 ·have := List.eq_of_mem_replicate he
  subst this
  cases h1
theorem yZ {k b : Nat} (h : Own O (σ ++ jx k) b) : Own O σ b := by
 rcases h with h | h
 ·exact .inl h
 ·exact .inr (ZD h)
theorem wS (K : List Nat) (w : World) (σ : List SE) (k : Nat) : Hold K w σ w (σ ++ jx k) := fun i e he _ => by
 have hi := (List.getElem?_eq_some_iff.1 he).1
 exact ⟨by rw [List.getElem?_append_left hi]; exact he, fun ad _ cs el h => ⟨cs, el, h, rfl⟩⟩
theorem Jm {k : Nat} (hx : Ext own w own' w) {a b : AV} {v : Value} (hu : upA0 σ.length k a b) (ha : Rep own w a σ v) : Rep own' w b (σ ++ jx k) v := by
 unfold upA0 at hu
 split at hu
 ·obtain ⟨⟨h1, h2⟩, rfl, rfl⟩ := hu
  rename_i i sz _ _
  simp only [Rep] at ha ⊢
  refine ⟨⟨none, 0⟩, ?_, by simp, none, 0, ha, Nat.le_refl _, .inl rfl⟩
  rw [List.getElem?_append_right h1, jx, List.getElem?_replicate, if_pos (by omega)]
 ·subst hu
  exact zV (K := []) hx (wS [] w σ k) _ _ (qU _) ha
theorem Zh {k : Nat} (hx : Ext own w own' w) : ∀ {l m : List AV} {vs : List Value}, upL0 σ.length k l m → RepL own w l σ vs → RepL own' w m (σ ++ jx k) vs
 | [], [], vs, _, h => by simpa [RepL] using h
 | a :: l, b :: m, vs, hl, h => by
  simp only [RepL] at h ⊢
  obtain ⟨v, r, hv, h1, h2⟩ := h
  exact ⟨v, r, hv, Jm hx hl.1 h1, Zh hx hl.2 h2⟩
 | [], _ :: _, _, hl, _ => hl.elim
 | _ :: _, [], _, hl, _ => hl.elim
theorem Q5 {k : Nat} (hx : Ext own w own' w) {a b : AV} {v : Value} (hu : upA1 σ.length k a b) (ha : Rep own w a σ v) : Rep own' w b (σ ++ jx k) v := by
 unfold upA1 at hu
 split at hu
 ·simp only [Rep] at ha ⊢
  obtain ⟨vs, hv, hr⟩ := ha
  exact ⟨vs, hv, Zh hx hu hr⟩
 ·exact Jm hx hu ha
theorem x9 {k : Nat} (hx : Ext own w own' w) : ∀ {l m : List AV} {vs : List Value}, upL1 σ.length k l m → RepL own w l σ vs → RepL own' w m (σ ++ jx k) vs
 | [], [], vs, _, h => by simpa [RepL] using h
 | a :: l, b :: m, vs, hl, h => by
  simp only [RepL] at h ⊢
  obtain ⟨v, r, hv, h1, h2⟩ := h
  exact ⟨v, r, hv, Q5 hx hl.1 h1, x9 hx hl.2 h2⟩
 | [], _ :: _, _, hl, _ => hl.elim
 | _ :: _, [], _, hl, _ => hl.elim
theorem QO {k : Nat} (hx : Ext own w own' w) {a b : AV} {v : Value} (hu : upA2 σ.length k a b) (ha : Rep own w a σ v) : Rep own' w b (σ ++ jx k) v := by
 unfold upA2 at hu
 split at hu
 ·simp only [Rep] at ha ⊢
  obtain ⟨vs, hv, hr⟩ := ha
  exact ⟨vs, hv, x9 hx hu hr⟩
 ·exact Q5 hx hu ha
def kp (szs : List (Nat × (Nat → Nat → AV))) : Heap := szs.map fun s => .arr 0 s.1 s.2
theorem zdu (hx : Ext own w own' w) {hs : Heap} (hh : HRep own w σ hs) (szs : List (Nat × (Nat → Nat → AV))) : HRep own' w (σ ++ jx szs.length) (hs ++ kp szs) := by
 have hl := hh.len
 refine ⟨by simp [jx, kp, hl], fun i j e f a b he hf ha hb hij => ?_, fun i e a he ha => ?_, fun i e b he hb => ?_⟩
 ·rcases qI he with ⟨_, he⟩ | ⟨_, rfl⟩
  ·rcases qI hf with ⟨_, hf⟩ | ⟨_, rfl⟩
   ·exact hh.inj i j e f a b he hf ha hb hij
   ·cases hb
  ·cases ha
 ·rcases qI he with ⟨_, he⟩ | ⟨_, rfl⟩
  ·exact hh.lt i e a he ha
  ·cases ha
 ·rcases qI he with ⟨hi, he⟩ | ⟨hi, rfl⟩
  ·rw [List.getElem?_append_left (by omega)] at hb
   have := qG (K := []) hx (wS [] w σ szs.length) (hh.blk i e b he hb) (fun _ _ => rfl)
   rwa [qO] at this
  ·rw [List.getElem?_append_right (by omega)] at hb
   simp only [kp, List.getElem?_map] at hb
   cases hz : szs[i - hs.length]? with
   | none => simp [hz] at hb
   | some s =>
    simp only [hz, Option.map_some, Option.some.injEq] at hb
    subst hb
    exact ⟨rfl, .inl rfl⟩
def upQ (Q : AV × Heap → Prop) (p : AV × Heap) : Prop := Q p ∨ ∃ (r : AV) (szs : List (Nat × (Nat → Nat → AV))), upA2 p.2.length szs.length p.1 r ∧ Q (r, p.2 ++ kp szs)
theorem qR.up {g : Nat} {c : Ctr} {args : List AV} {hc : Heap} {Q : AV × Heap → Prop} (h : qR P g c args hc (upQ Q)) : qR P g c args hc Q := by
 intro O w σ vals hg hh hr
 refine uy.mono ?_ (h O w σ vals hg hh hr)
 rintro v w' ⟨r, hs, σ', hq, h1, h2, h3, h4, h5, h6⟩
 rcases hq with hq | ⟨r', szs, hu, hq⟩
 ·exact ⟨r, hs, σ', hq, h1, h2, h3, h4, h5, h6⟩
 ·have hx : Ext (fun b => Own O σ' b ∨ (c.fresh = true ∧ b < w.heap.size)) w' (fun b => Own O (σ' ++ jx szs.length) b ∨ (c.fresh = true ∧ b < w.heap.size)) w' :=
   ⟨rfl, rfl, rfl, Nat.le_refl _, fun _ _ _ => rfl, fun b hb => .inl (hb.imp yZ id)⟩
  have hl : hs.length = σ'.length := h2.len.symm
  refine ⟨r', hs ++ kp szs, σ' ++ jx szs.length, hq, QO hx (by rw [← hl]; exact hu) h1, zdu hx h2 szs, ⟨h3.old, fun i e ad he had => ?_, h3.stat.own fun b hb => yZ hb⟩, by simp; omega, h5.V3 (wS [] w' σ' _), ?_⟩
  ·rcases qI he with ⟨_, he⟩ | ⟨_, rfl⟩
   ·exact h3.dis i e ad he had
   ·cases had
  ·exact ⟨h6.os, h6.tape, h6.output, h6.size, h6.keep, fun b hb => h6.grow b (ZD hb)⟩
theorem Wp {X R : Type} {fresh : Bool} {inp : X → List AV} {pre : X → Prop} {post : X → R → Prop} {out : X → R → AV × Heap} {g : Nat} {c : Code} (hf : P.funcs[g]? = some fn) (hb : fn.body = some c) (hn : (fn.name == "runtime.NumGoroutine") = false)
  (H : ∀ x, pre x → ∀ (O : Nat → Prop) (w0 : World) (Q : AV × Heap → Prop), (∀ r, post x r → Q (out x r)) →
   zb P fn O 0 w0 [] (fun _ _ _ => False) (RetR (ctrP fresh inp pre post out) 0 (upQ Q)) [.code c] (entry fn (inp x))) : zd P g (ctrP fresh inp pre post out) := by
 intro args hc Q hq _
 simp only [ctrP] at hq
 split at hq
 ·obtain ⟨x, ⟨h1, h4⟩, h5, h6⟩ := hq
  refine qR.le h1 (qR.up (fn_k hf hb hn (fun h => rfl) fun O w0 σ0 hl => ?_))
  have h0 : σ0 = [] := List.length_eq_zero_iff.1 (by simpa using hl)
  subst h0
  exact H x h4 O w0 Q h6
 ·exact hq.elim
def upKV (d k : Nat) : KV → KV → Prop
 | [], [] => True
 | (i, a) :: l, (j, b) :: m => i = j ∧ upA2 d k a b ∧ upKV d k l m
 | _, _ => False
def upB (d k : Nat) : Blk → Blk → Prop
 | .box l, .box m => upL1 d k l m
 | a, b => a = b
def upH (d k : Nat) : Heap → Heap → Prop
 | [], [] => True
 | b :: l, c :: m => upB d k b c ∧ upH d k l m
 | _, _ => False
theorem QE {d k : Nat} : ∀ {l m : KV} (t : Nat), upKV d k l m → upA2 d k (look l t) (look m t)
 | [], [], t, _ => by simp [look, upA2, upA1, upA0]
 | (i, a) :: l, (j, b) :: m, t, h => by
  obtain ⟨rfl, h1, h2⟩ := h
  simp only [look]
  split
  ·exact h1
  ·exact QE t h2
 | [], _ :: _, _, h => h.elim
 | _ :: _, [], _, h => h.elim
theorem Xg {d k : Nat} : ∀ {l m : Heap}, upH d k l m → l.length = m.length
 | [], [], _ => rfl
 | _ :: l, _ :: m, h => by simp [Xg h.2]
 | [], _ :: _, h => h.elim
 | _ :: _, [], h => h.elim
theorem XM {d k : Nat} : ∀ {l m : Heap} {i : Nat} {b' : Blk}, upH d k l m → m[i]? = some b' → ∃ b, l[i]? = some b ∧ upB d k b b'
 | b :: l, c :: m, 0, b', h, h1 => by simp at h1; subst h1; exact ⟨b, rfl, h.1⟩
 | b :: l, c :: m, i + 1, b', h, h1 => by simpa using XM h.2 (by simpa using h1)
 | [], [], _, _, _, h1 => by simp at h1
 | [], _ :: _, _, _, h, _ => h.elim
 | _ :: _, [], _, _, h, _ => h.elim
theorem Yz {k : Nat} (hx : Ext own w own' w) {e : SE} {b b' : Blk} (hu : upB σ.length k b b') (hb : BRep own w σ e b) : BRep own' w (σ ++ jx k) e b' := by
 unfold upB at hu
 split at hu
 ·simp only [BRep] at hb ⊢
  obtain ⟨ad, vs, el, h1, h2, h3, h4⟩ := hb
  exact ⟨ad, vs, el, h1, h2, h3, x9 hx hu h4⟩
 ·subst hu
  have := qG (K := []) hx (wS [] w σ k) hb (fun _ _ => rfl)
  rwa [qO] at this
variable {pin : Nat} {w0 : World} {σ0 : List SE} {a : Act}
theorem up_mod {kv kv2 : KV} {h h2 : Heap} {n : Nat} (hm : Mod O pin w0 σ0 w σ (mk n kv h) a) {szs : List (Nat × (Nat → Nat → AV))} (hkv : upKV h.length szs.length kv kv2) (hh2 : upH h.length szs.length h h2) (hno : (pk n kv).all zB = true) (hno2 : (pk n kv2).all zB = true) : Mod O pin w0 σ0 w (σ ++ jx szs.length) (mk n kv2 (h2 ++ kp szs)) a := by
 have hx : Ext (Own O σ) w (Own O (σ ++ jx szs.length)) w := ⟨rfl, rfl, rfl, Nat.le_refl _, fun _ _ _ => rfl, fun b hb => .inl (yZ hb)⟩
 have hl : h.length = σ.length := hm.hp.len.symm
 rw [hl] at hkv hh2
 have hl2 := Xg hh2
 refine ⟨⟨hm.good.old, fun i e ad he had => ?_, hm.good.stat.ext hx⟩, ?_, by simp [hm.size, mk, pk], fun u => ?_, hm.df.ext hx, hm.since.trans ⟨hx, fun _ _ _ => rfl, wo.of (wS [] w σ _) (by simp)⟩, hm.lim⟩
 ·rcases qI he with ⟨_, he⟩ | ⟨_, rfl⟩
  ·exact hm.good.dis i e ad he had
  ·cases had
 ·have hh := hm.hp
  refine ⟨by simp [mk, jx, kp, ← hl2, hl], fun i j e f x y he hf ha hb hij => ?_, fun i e x he ha => ?_, fun i e b he hb => ?_⟩
  ·rcases qI he with ⟨_, he⟩ | ⟨_, rfl⟩
   ·rcases qI hf with ⟨_, hf⟩ | ⟨_, rfl⟩
    ·exact hh.inj i j e f x y he hf ha hb hij
    ·cases hb
   ·cases ha
  ·rcases qI he with ⟨_, he⟩ | ⟨_, rfl⟩
   ·exact hh.lt i e x he ha
   ·cases ha
  ·simp only [mk] at hb
   rcases qI he with ⟨hi, he⟩ | ⟨hi, rfl⟩
   ·rw [List.getElem?_append_left (by omega)] at hb
    obtain ⟨b0, h1, h3⟩ := XM hh2 hb
    exact Yz hx h3 (hh.blk i e b0 he h1)
   ·rw [List.getElem?_append_right (by omega)] at hb
    simp only [kp, List.getElem?_map] at hb
    cases hz : szs[i - h2.length]? with
    | none => simp [hz] at hb
    | some s =>
     simp only [hz, Option.map_some, Option.some.injEq] at hb
     subst hb
     exact ⟨rfl, .inl rfl⟩
 ·have hu := hm.tm u
  have key : ∀ (kv : KV) (h : Heap), (pk n kv).all zB = true → zB ((mk n kv h).tmps.getD u .undef) = true := by
   intro kv h hno
   by_cases hlt : u < (mk n kv h).tmps.length
   ·simp only [List.getD, List.getElem?_eq_getElem hlt, Option.getD_some]
    exact List.all_eq_true.1 hno _ (List.getElem_mem hlt)
   ·simp only [List.getD]
    rw [List.getElem?_eq_none (by omega)]; rfl
  have n1 := key kv h hno
  have n2 := key kv2 (h2 ++ kp szs) hno2
  have hr : Rep (Own O σ) w ((mk n kv h).tmps.getD u .undef) σ (a.tmps.getD u undef) := by
   generalize (mk n kv h).tmps.getD u .undef = x at hu n1
   cases x with
   | opt _ _ _ => simp [zB] at n1
   | _ => simpa only [TRep] using hu
  have hup : upA2 σ.length szs.length ((mk n kv h).tmps.getD u .undef) ((mk n kv2 (h2 ++ kp szs)).tmps.getD u .undef) := by
   by_cases hlt : u < n
   ·simp only [mk]
    rw [wW hlt, wW hlt]
    exact QE u hkv
   ·simp [mk, pk, List.getD, hlt, upA2, upA1, upA0]
  have := QO hx hup hr
  generalize (mk n kv2 (h2 ++ kp szs)).tmps.getD u .undef = y at this n2
  cases y with
  | opt _ _ _ => simp [zB] at n2
  | _ => simpa only [TRep] using this
theorem zb.up {M : Option Nat} {Hs : Nat → KV → Heap → Prop} {R : List AV → Heap → Prop} {k : List Item} {kv : KV} {h : Heap} (szs : List (Nat × (Nat → Nat → AV))) (kv2 : KV) (h2 : Heap) (hkv : upKV h.length szs.length kv kv2) (hh2 : upH h.length szs.length h h2) (hno : (pk fn.ntmps kv).all zB = true) (hno2 : (pk fn.ntmps kv2).all zB = true)
  (H : zO M P fn O pin w0 σ0 Hs R k (mk fn.ntmps kv2 (h2 ++ kp szs))) : zO M P fn O pin w0 σ0 Hs R k (mk fn.ntmps kv h) :=
 fun w σ a hm => H w _ a (up_mod hm hkv hh2 hno hno2)
theorem RetR.outs {ctr : Ctr} {Q : AV × Heap → Prop} {rs : List AV} {h : Heap} {r : AV} {hs : Heap} (L : List Nat) (hnd : jE L = true) (hlt : (L.all fun i => decide (i < h.length)) = true) (hq : Q (r, hs)) (hn : ctr.fresh = true → new2 h L (resV rs) ∧ ∀ i ∈ L, newB (h.getD i .dead))
  (he : eqA2 (exp2 h L (resV rs)) r) (hb : eqH (expH h L) hs) (hl : hs.length = L.length) : RetR ctr 0 Q rs h :=
 ⟨L, hnd, fun i hi => by have := List.all_eq_true.1 hlt i hi; simpa using this, by simp, hn, r, hs, qo he, hb, hl, hq⟩
theorem RetR.keep {ctr : Ctr} {m : Nat} {Q : AV × Heap → Prop} {rs : List AV} {h : Heap} {r : AV} {hs : Heap} (L : List Nat) (hnd : jE L = true) (hlt : (L.all fun i => decide (i < h.length)) = true) (hj : ∀ j, j < m → L[j]? = some j) (hf : ctr.fresh = false) (hq : Q (r, hs))
  (he : eqA2 (exp2 h L (resV rs)) r) (hb : eqH (expH h L) hs) (hl : hs.length = L.length) : RetR ctr m Q rs h :=
 ⟨L, hnd, fun i hi => by have := List.all_eq_true.1 hlt i hi; simpa using this, hj, (fun hh => absurd hh (by rw [hf]; decide)), r, hs, qo he, hb, hl, hq⟩
end
end Go.Sx
end

/- Rationals: pairs. -/
section
set_option maxRecDepth 100000
open Go Go.Sx Go.Proofs Go.Nov
namespace Go.Proofs.Tryz
attribute [local simp] eqKV eqA eqA0 eqH eqB eqL eqL0
noncomputable def K45 : List Go.Sx.Item := [.code (Tryz.f45.body.getD .skip)]
structure Pr where
 n : List UInt8
 m : List UInt8
 d : List UInt8
 c : List UInt8
 e : Int
def Pr.box (p : Pr) : Blk := .box [.str p.n, .str p.m, .str p.d, .str p.c, .int .i64 p.e]
def Pr.err (p : Pr) (e : Int) : Pr := ⟨p.n, p.m, p.d, p.c, e⟩
inductive QOp where
 | add | sub | mul
def QOp.fn : QOp → Nat
 | .add => 61
 | .sub => 999999
 | .mul => 47
def QOp.has : QOp → Prop
 | .sub => False
 | _ => True
def QOp.op : QOp → List UInt8 → List UInt8 → List UInt8 × Int
 | .add => addI
 | .sub => subI
 | .mul => mulI
def qX (a b : List UInt8) : Pr := if errR a ≠ 0 then ⟨[], [], [], [], errR a⟩ else if errR b ≠ 0 then ⟨numR a, [], denR a, [], errR b⟩ else ⟨numR a, numR b, denR a, denR b, 0⟩
def zbf : Ctr := ctrT false false (fun p : List UInt8 × List UInt8 => [.str p.1, .str p.2]) (fun _ => []) (fun p => p.1.length < 2 ^ 62 ∧ p.2.length < 2 ^ 62) (fun p r => r = qX p.1 p.2) (fun _ (r : Pr) => (.ptr 0 0, [r.box]))
def zb1 : Ctr := ctrT false false (fun p : Pr × QOp => [.ptr 0 0, .fn p.2.fn [] []]) (fun p => [p.1.box]) (fun _ => True) (fun _ (_ : Unit) => True) (fun p _ => (.fn 73 [] [.ptr 1 0, .ptr 2 0], [p.1.box, .box [.ptr 0 0], .box [.fn p.2.fn [] []]]))
structure KX where
 p : Pr
 o : QOp
 x : List UInt8
 y : List UInt8
def VM : Ctr := ctrT false false (fun k : KX => [.str k.x, .str k.y, .ptr 0 0, .ptr 2 0]) (fun k => [.box [.ptr 1 0], k.p.box, .box [.fn k.o.fn [] []]]) (fun k => k.x.length < 2 ^ 62 ∧ k.y.length < 2 ^ 62 ∧ k.o.has) (fun k r => r = if k.p.e ≠ 0 then ([], k.p.e) else k.o.op k.x k.y)
 (fun k (r : List UInt8 × Int) => (.str r.1, [.box [.ptr 1 0], (k.p.err r.2).box, .box [.fn k.o.fn [] []]]))
def Uk : Ctr := ctrT false false (fun k : Pr × List UInt8 × List UInt8 => [.ptr 0 0, .str k.2.1, .str k.2.2]) (fun k => [k.1.box]) (fun k => k.2.1.length < 2 ^ 62 ∧ k.2.2.length < 2 ^ 62) (fun k r => r = if k.1.e ≠ 0 then ([], k.1.e) else qC k.2.1 k.2.2)
 (fun k (r : List UInt8 × Int) => (.tup [.str r.1, .int .i64 r.2], [k.1.box]))
theorem zbk : zd Tryz.prog 46 zb1 := by
 refine vS (fn := Tryz.f46) (c := Tryz.f46.body.getD .skip) rfl rfl rfl (fun h => by cases h) fun p hp O w0 σ0 Q hl0 hq => ?_
 obtain ⟨p, o⟩ := p
 replace hq := hq () trivial
 refine zb.run hmix zq [] 400 (T := .leaf (.ret [.fn 73 [] [.ptr 1 0, .ptr 2 0]] [.box [.str p.n, .str p.m, .str p.d, .str p.c, .int .i64 p.e], .box [.ptr 0 0], .box [.fn (QOp.fn o) [] []]])) (by kernel_rfl) ?_
 simp only [Tree.holds, zc]
 refine RetR.keep [0, 1, 2] rfl rfl (by show ∀ j, j < 1 → _; decide) rfl hq ?_ ?_ rfl
 ·rfl
 ·exact ⟨⟨rfl, rfl, rfl, rfl, ⟨rfl, rfl⟩, trivial⟩, ⟨⟨rfl, rfl⟩, trivial⟩, ⟨rfl, trivial⟩, trivial⟩
noncomputable def GK1 : Nat → Option Ctr := fun f => if f = 61 then some (addC) else if f = 47 then some (mulC) else none
theorem zar : ∀ g c, GK1 g = some c → zd Tryz.prog g c := okIf zf2 (okIf zfs (zp))
theorem za6 : zd Tryz.prog 73 VM := by
 refine vS (fn := Tryz.f73) (c := Tryz.f73.body.getD .skip) rfl rfl rfl (fun h => by cases h) fun k hk O w0 σ0 Q hl0 hq => ?_
 obtain ⟨⟨n, m, d, c, e⟩, o, x, y⟩ := k
 obtain ⟨h1, h2, h3⟩ := hk
 replace hq := hq _ rfl
 simp only at h1 h2 h3 hq
 have fin : ∀ r : List UInt8 × Int, (if e ≠ 0 then ([], e) else o.op x y) = r → RetR VM 3 Q [.str r.1] [.box [.ptr 1 0], .box [.str n, .str m, .str d, .str c, .int .i64 r.2], .box [.fn o.fn [] []]] := by
  rintro r rfl
  refine RetR.keep [0, 1, 2] rfl rfl (by show ∀ j, j < 3 → _; decide) rfl hq ?_ ?_ rfl
  ·rfl
  ·exact ⟨⟨⟨rfl, rfl⟩, trivial⟩, ⟨rfl, rfl, rfl, rfl, ⟨rfl, rfl⟩, trivial⟩, ⟨rfl, trivial⟩, trivial⟩
 cases o with
 | add =>
  refine zb.run hmix zar [] 400 (T := .ite (!decide (e = 0)) (.leaf (.ret [.str (Array.toList #[])] [.box [.ptr 1 0], .box [.str n, .str m, .str d, .str c, .int .i64 e], .box [.fn 61 [] []]])) (.ex (fun (x_1 : List UInt8 × List UInt8) => eqL [AV.str x, AV.str y] [AV.str x_1.1, AV.str x_1.2] ∧ x_1.1.length < 4611686018427387904 ∧ x_1.2.length < 4611686018427387904) fun n_1 => .all (fun (r : List UInt8 × Int) => r = addI n_1.1 n_1.2) fun n_2 => .leaf (.ret [.str n_2.1] [.box [.ptr 1 0], .box [.str n, .str m, .str d, .str c, .int .i64 n_2.2], .box [.fn 61 [] []]]))) (by kernel_rfl) ?_
  simp only [Tree.holds, zc]
  refine ⟨fun h => ?_, fun h => ⟨(x, y), ⟨by simp, h1, h2⟩, ⟨_, rfl⟩, ?_⟩⟩
  ·have h : e ≠ 0 := by simpa using h
   exact fin ([], e) (if_pos h)
  ·have h : e = 0 := by simpa using h
   rintro _ rfl
   exact fin (addI x y) (if_neg (by simp [h]))
 | sub => exact h3.elim
 | mul =>
  refine zb.run hmix zar [] 400 (T := .ite (!decide (e = 0)) (.leaf (.ret [.str (Array.toList #[])] [.box [.ptr 1 0], .box [.str n, .str m, .str d, .str c, .int .i64 e], .box [.fn 47 [] []]])) (.ex (fun (x_1 : List UInt8 × List UInt8) => eqL [AV.str x, AV.str y] [AV.str x_1.1, AV.str x_1.2] ∧ x_1.1.length < 4611686018427387904 ∧ x_1.2.length < 4611686018427387904) fun n_1 => .all (fun (r : List UInt8 × Int) => r = mulI n_1.1 n_1.2) fun n_2 => .leaf (.ret [.str n_2.1] [.box [.ptr 1 0], .box [.str n, .str m, .str d, .str c, .int .i64 n_2.2], .box [.fn 47 [] []]]))) (by kernel_rfl) ?_
  simp only [Tree.holds, zc]
  refine ⟨fun h => ?_, fun h => ⟨(x, y), ⟨by simp, h1, h2⟩, ⟨_, rfl⟩, ?_⟩⟩
  ·have h : e ≠ 0 := by simpa using h
   exact fin ([], e) (if_pos h)
  ·have h : e = 0 := by simpa using h
   rintro _ rfl
   exact fin (mulI x y) (if_neg (by simp [h]))
noncomputable def GMd : Nat → Option Ctr := fun f => if f = 83 then some (X7) else none
theorem zg9 : ∀ g c, GMd g = some c → zd Tryz.prog g c := okIf zci (zp)
theorem zcz : zd Tryz.prog 60 Uk := by
 refine vS (fn := Tryz.f60) (c := Tryz.f60.body.getD .skip) rfl rfl rfl (fun h => by cases h) fun k hk O w0 σ0 Q hl0 hq => ?_
 obtain ⟨⟨n, m, d, c, e⟩, x, y⟩ := k
 obtain ⟨h1, h2⟩ := hk
 replace hq := hq _ rfl
 simp only at h1 h2 hq
 have fin : ∀ r : List UInt8 × Int, (if e ≠ 0 then ([], e) else qC x y) = r → RetR Uk 1 Q [.str r.1, .int .i64 r.2] [.box [.str n, .str m, .str d, .str c, .int .i64 e]] := by
  rintro r rfl
  refine RetR.keep [0] rfl rfl (by show ∀ j, j < 1 → _; decide) rfl hq ?_ ?_ rfl
  ·exact ⟨rfl, ⟨rfl, rfl⟩, trivial⟩
  ·exact ⟨⟨rfl, rfl, rfl, rfl, ⟨rfl, rfl⟩, trivial⟩, trivial⟩
 refine zb.run hmix zg9 [] 400 (T := .ite (!decide (e = 0)) (.leaf (.ret [.str (Array.toList #[]), .int .i64 e] [.box [.str n, .str m, .str d, .str c, .int .i64 e]])) (.ex (fun (x_1 : List UInt8 × List UInt8) => eqL [AV.str x, AV.str y] [AV.str x_1.1, AV.str x_1.2] ∧ x_1.1.length < 4611686018427387904 ∧ x_1.2.length < 4611686018427387904) fun n_1 => .all (fun (r : List UInt8 × Int) => r = qC n_1.1 n_1.2) fun n_2 => .leaf (.ret [.str n_2.1, .int .i64 n_2.2] [.box [.str n, .str m, .str d, .str c, .int .i64 e]]))) (by kernel_rfl) ?_
 simp only [Tree.holds, zc]
 refine ⟨fun h => ?_, fun h => ⟨(x, y), ⟨by simp, h1, h2⟩, ⟨_, rfl⟩, ?_⟩⟩
 ·have h : e ≠ 0 := by simpa using h
  exact fin ([], e) (if_pos h)
 ·have h : e = 0 := by simpa using h
  rintro _ rfl
  exact fin (qC x y) (if_neg (by simp [h]))
def Pst (a b : List UInt8) : Nat → Pr
 | 0 => ⟨[], [], [], [], 0⟩
 | 1 => if errR a ≠ 0 then ⟨[], [], [], [], errR a⟩ else ⟨numR a, [], denR a, [], 0⟩
 | _ => qX a b
def SBq (a b : List UInt8) (i : Nat) : KV := [(5, .ptr 0 0), (12, .agg [.str a, .str b]), (13, .int .i64 (i : Int))]
noncomputable def GBq : Nat → Option Ctr := fun f => if f = 72 then some (UU) else none
theorem J4 : ∀ g c, GBq g = some c → zd Tryz.prog g c := okIf U5 (zp)
theorem UJ : zd Tryz.prog 45 zbf := by
 refine vS (fn := Tryz.f45) (c := Tryz.f45.body.getD .skip) rfl rfl rfl (fun h => by cases h) fun p hp O w0 σ0 Q hl0 hq => ?_
 obtain rfl : σ0 = [] := List.length_eq_zero_iff.1 hl0
 obtain ⟨a, b⟩ := p
 obtain ⟨h1, h2⟩ := hp
 replace hq := hq _ rfl
 simp only at h1 h2 hq
 refine zb.run hmix J4 [5, 12, 13] 400 (T := .leaf (.loop (Prod.fst (lps K45 0)) (Prod.snd (lps K45 0)) [(5, .ptr 0 0), (12, .agg [.str a, .str b]), (13, .int .i64 0)] [.box [.str (Array.toList #[]), .str (Array.toList #[]), .str (Array.toList #[]), .str (Array.toList #[]), .int .i64 0]])) (by kernel_rfl) ?_
 simp only [Tree.holds, zc]
 refine zb.loop (ι := {i : Nat // i ≤ 2}) (fun i => SBq a b i.1) (fun i => [(Pst a b i.1).box]) (fun i => 2 - i.1) ⟨0, Nat.zero_le _⟩ 0 ?_ ?_ (by kernel_rfl)
 ·exact ⟨by simp [SBq], by simp [Pst, Pr.box], by kernel_rfl, Nat.zero_le _⟩
 rintro ⟨i, hil⟩
 match i, hil with
 | 0, _ =>
  refine zb.run hmix J4 [5, 12, 13] 400 (T := .ite true (.side ((0 : Int) ≤ 0 ∧ (0 : Int) < 2 ∧ 1 ≤ List.length [AV.str a, AV.str b]) (.ite true (.ex (fun (x : List UInt8) => eqL [AV.str a] [AV.str x] ∧ x.length < 4611686018427387904) fun n => .all (fun (r : List UInt8 × List UInt8 × Int) => r = if errR n = 0 then (numR n, denR n, (0 : Int)) else ([], [], errR n)) fun n => .side ((0 : Int) ≤ 0 ∧ (0 : Int) < 2) (.side ((0 : Int) ≤ 0 ∧ (0 : Int) < 2) (.side (inR .i64 (1 : Int)) (.leaf (.back 0 [(5, .ptr 0 0), (12, .agg [.str a, .str b]), (13, .int .i64 1)] [.box [.str n.1, .str [], .str n.2.1, .str [], .int .i64 n.2.2]]))))) (.side (inR .i64 (1 : Int)) (.leaf (.back 0 [(5, .ptr 0 0), (12, .agg [.str a, .str b]), (13, .int .i64 1)] [.box [.str [], .str [], .str [], .str [], .int .i64 0]]))))) (.leaf (.ret [.ptr 0 0] [.box [.str [], .str [], .str [], .str [], .int .i64 0]]))) (by kernel_rfl) ?_
  simp only [Tree.holds, zc, inR, lo, hi, Int.toNat_natCast]
  refine ⟨fun _ => ⟨by simp, fun _ => ⟨fun _ => ⟨a, ⟨by simp, h1⟩, ⟨_, rfl⟩, ?_⟩, fun h => (by cases h)⟩⟩, fun h => (by cases h)⟩
  intro r hr
  refine ⟨by decide, fun _ => ⟨by decide, fun _ => ⟨by decide, fun _ => ?_⟩⟩⟩
  rw [if_pos trivial]
  refine ⟨⟨1, by decide⟩, by decide, by simp [SBq], ?_, by kernel_rfl, Nat.zero_le _⟩
  have e : Pst a b 1 = ⟨r.1, [], r.2.1, [], r.2.2⟩ := by
   rw [hr]
   by_cases h : errR a = 0
   ·simp [Pst, h]
   ·simp [Pst, h]
  show eqH _ [(Pst a b 1).box]
  rw [e]
  simp [Pr.box]
 | 1, _ =>
  obtain ⟨⟨n, m, d, c, e⟩, hp⟩ : ∃ p, Pst a b 1 = p := ⟨_, rfl⟩
  simp only [hp]
  refine zb.run hmix J4 [5, 12, 13] 400 (T := .ite true (.side ((0 : Int) ≤ 1 ∧ (1 : Int) < 2 ∧ 2 ≤ List.length [AV.str a, AV.str b]) (.ite (decide (e = 0)) (.ex (fun (x : List UInt8) => eqL [AV.str b] [AV.str x] ∧ x.length < 4611686018427387904) fun n_1 => .all (fun (r : List UInt8 × List UInt8 × Int) => r = if errR n_1 = 0 then (numR n_1, denR n_1, (0 : Int)) else ([], [], errR n_1)) fun n_2 => .side ((0 : Int) ≤ 1 ∧ (1 : Int) < 2) (.side ((0 : Int) ≤ 1 ∧ (1 : Int) < 2) (.side (inR .i64 (2 : Int)) (.leaf (.back 0 [(5, .ptr 0 0), (12, .agg [.str a, .str b]), (13, .int .i64 2)] [.box [.str n, .str n_2.1, .str d, .str n_2.2.1, .int .i64 n_2.2.2]]))))) (.side (inR .i64 (2 : Int)) (.leaf (.back 0 [(5, .ptr 0 0), (12, .agg [.str a, .str b]), (13, .int .i64 2)] [.box [.str n, .str m, .str d, .str c, .int .i64 e]]))))) (.leaf (.ret [.ptr 0 0] [.box [.str n, .str m, .str d, .str c, .int .i64 e]]))) (by kernel_rfl) ?_
  simp only [Tree.holds, zc, inR, lo, hi, Int.toNat_natCast]
  refine ⟨fun _ => ⟨by simp, fun _ => ⟨fun h => ⟨b, ⟨by simp, h2⟩, ⟨_, rfl⟩, ?_⟩, fun h => ⟨by decide, fun _ => ?_⟩⟩⟩, fun h => (by cases h)⟩
  ·have h : e = 0 := by simpa using h
   intro r hr
   refine ⟨by decide, fun _ => ⟨by decide, fun _ => ⟨by decide, fun _ => ?_⟩⟩⟩
   rw [if_pos trivial]
   refine ⟨⟨2, by decide⟩, by decide, by simp [SBq], ?_, by kernel_rfl, Nat.zero_le _⟩
   have e2 : Pst a b 2 = ⟨n, r.1, d, r.2.1, r.2.2⟩ := by
    rw [hr]
    by_cases ha : errR a = 0
    ·simp only [Pst, ha] at hp
     simp at hp
     obtain ⟨rfl, rfl, rfl, rfl, _⟩ := hp
     by_cases hb : errR b = 0
     ·simp [Pst, qX, ha, hb]
     ·simp [Pst, qX, ha, hb]
    ·simp only [Pst] at hp
     rw [if_pos ha] at hp
     cases hp
     exact absurd h ha
   show eqH _ [(Pst a b 2).box]
   rw [e2]
   simp [Pr.box]
  ·have h : e ≠ 0 := by simpa using h
   rw [if_pos trivial]
   refine ⟨⟨2, by decide⟩, by decide, by simp [SBq], ?_, by kernel_rfl, Nat.zero_le _⟩
   have e2 : Pst a b 2 = ⟨n, m, d, c, e⟩ := by
    by_cases ha : errR a = 0
    ·simp only [Pst, ha] at hp
     simp at hp
     exact absurd hp.2.2.2.2.symm h
    ·rw [← hp]
     simp only [Pst, qX]
     rw [if_pos ha, if_pos ha]
   show eqH _ [(Pst a b 2).box]
   rw [e2]
   simp [Pr.box]
 | 2, _ =>
  obtain ⟨⟨n, m, d, c, e⟩, hp⟩ : ∃ p, Pst a b 2 = p := ⟨_, rfl⟩
  simp only [hp]
  refine zb.run hmix J4 [5, 12, 13] 400 (T := .ite false (.side ((0 : Int) ≤ 2 ∧ (2 : Int) < 2 ∧ 3 ≤ List.length [AV.str a, AV.str b]) .fail) (.leaf (.ret [.ptr 0 0] [.box [.str n, .str m, .str d, .str c, .int .i64 e]]))) (by kernel_rfl) ?_
  simp only [Tree.holds, zc, inR, lo, hi, Int.toNat_natCast]
  refine ⟨fun h => (by cases h), fun _ => ?_⟩
  have hp : qX a b = ⟨n, m, d, c, e⟩ := hp
  rw [hp] at hq
  refine RetR.out1 0 (by show 0 < 1; decide) hq (fun h => by cases h) ?_ ?_
  ·exact ⟨rfl, rfl⟩
  ·exact ⟨rfl, rfl, rfl, rfl, ⟨rfl, rfl⟩, trivial⟩
end Go.Proofs.Tryz
end

/- Rationals: sums, differences, products, comparisons. -/
section
set_option maxRecDepth 100000
open Go Go.Sx Go.Proofs Go.Nov
namespace Go.Proofs.Tryz
attribute [local simp] eqKV eqA eqA0 eqH eqB eqL eqL0
theorem k8 (a b : List UInt8) : ((qX a b).e ≠ 0 ∧ qj a b = (qX a b).e) ∨ ((qX a b).e = 0 ∧ errR a = 0 ∧ errR b = 0 ∧ (qX a b).n = numR a ∧ (qX a b).m = numR b ∧ (qX a b).d = denR a ∧ (qX a b).c = denR b) := by
 unfold qX
 by_cases ha : errR a = 0
 ·rw [if_neg (by rw [ha]; simp)]
  by_cases hb : errR b = 0
  ·rw [if_neg (by rw [hb]; simp)]
   exact .inr ⟨rfl, ha, hb, rfl, rfl, rfl, rfl⟩
  ·rw [if_pos hb]
   exact .inl ⟨hb, by unfold qj; rw [if_pos ha]⟩
 ·rw [if_pos ha]
  exact .inl ⟨ha, by unfold qj; rw [if_neg ha]⟩
theorem uc (a b : List UInt8) : (qX a b).n.length ≤ a.length ∧ (qX a b).m.length ≤ b.length ∧ (qX a b).d.length ≤ a.length + 1 ∧ (qX a b).c.length ≤ b.length + 1 := by
 have h1 := v7 a
 have h2 := v7 b
 have h3 := wg a
 have h4 := wg b
 unfold qX
 split
 ·simp
 ·split
  ·simp; omega
  ·simp only; omega
theorem kx_l (x y : List UInt8) : eqL [.str x, .str y, .ptr 0 0, .ptr 2 0] [.str x, .str y, .ptr 0 0, .ptr 2 0] := ⟨rfl, rfl, ⟨rfl, rfl⟩, ⟨rfl, rfl⟩, trivial⟩
theorem kx_b (p : Pr) : eqH [.box [.str p.n, .str p.m, .str p.d, .str p.c, .int .i64 p.e]] [.box [.str p.n, .str p.m, .str p.d, .str p.c, .int .i64 p.e]] := ⟨⟨rfl, rfl, rfl, rfl, ⟨rfl, rfl⟩, trivial⟩, trivial⟩
theorem kx_h (p : Pr) (f : Nat) : eqH [.box [.ptr 1 0], .box [.str p.n, .str p.m, .str p.d, .str p.c, .int .i64 p.e], .box [.fn f [] []]] [.box [.ptr 1 0], .box [.str p.n, .str p.m, .str p.d, .str p.c, .int .i64 p.e], .box [.fn f [] []]] := ⟨⟨⟨rfl, rfl⟩, trivial⟩, (kx_b p).1, ⟨rfl, trivial⟩, trivial⟩
theorem kx_k (f : Nat) : eqL [.ptr 0 0, .fn f [] []] [.ptr 0 0, .fn f [] []] := ⟨⟨rfl, rfl⟩, rfl, trivial⟩
theorem kx_m (x y : List UInt8) : eqL [.ptr 0 0, .str x, .str y] [.ptr 0 0, .str x, .str y] := ⟨⟨rfl, rfl⟩, rfl, rfl, trivial⟩
theorem jn (p : Pr) (o : QOp) (x y : List UInt8) {r : List UInt8 × Int} (h : r = if p.e ≠ 0 then ([], p.e) else o.op x y) : r.1.length ≤ 1001 := by
 rw [h]
 refine zd6 ?_
 cases o
 ·exact ZQ x y
 ·exact zb2 x y
 ·exact j0 x y
noncomputable def GQA : Nat → Option Ctr := fun f => if f = 45 then some (zbf) else if f = 46 then some (zb1) else if f = 73 then some (VM) else if f = 60 then some (Uk) else if f = 48 then some (zdw) else none
theorem Kz : ∀ g c, GQA g = some c → zd Tryz.prog g c := okIf UJ (okIf zbk (okIf za6 (okIf zcz (okIf zdb (zp)))))
def zej : Ctr := ctrP true (fun p : List UInt8 × List UInt8 => [.str p.1, .str p.2]) (fun p => p.1.length < 2 ^ 61 ∧ p.2.length < 2 ^ 61) (fun p r => r = addR p.1 p.2) (fun _ r => (.tup [.str r.1, .int .i64 r.2], []))
def ze6 : Ctr := ctrP true (fun p : List UInt8 × List UInt8 => [.str p.1, .str p.2]) (fun p => p.1.length < 2 ^ 61 ∧ p.2.length < 2 ^ 61) (fun p r => r = mulR p.1 p.2) (fun _ r => (.tup [.str r.1, .int .i64 r.2], []))
def zer : Ctr := ctrP true (fun p : List UInt8 × List UInt8 => [.str p.1, .str p.2]) (fun p => p.1.length < 2 ^ 61 ∧ p.2.length < 2 ^ 61) (fun p r => r = cmpR p.1 p.2) (fun _ r => (.tup [.int .i64 r.1, .int .i64 r.2], []))
theorem zdl : zd Tryz.prog 35 zej := by
 refine ze (fn := Tryz.f35) (c := Tryz.f35.body.getD .skip) rfl rfl rfl fun p hp O w0 Q hq => ?_
 obtain ⟨a, b⟩ := p
 obtain ⟨h1, h2⟩ := hp
 replace hq := hq _ rfl
 simp only at h1 h2 hq
 refine zb.run hmix Kz [] 400 (T := .ex (fun (x : List UInt8 × List UInt8) => eqL [AV.str a, AV.str b] [AV.str x.1, AV.str x.2] ∧ eqH [] [] ∧ 0 = 0 ∧ x.1.length < 4611686018427387904 ∧ x.2.length < 4611686018427387904) fun n => .all (fun (r : Pr) => r = qX n.1 n.2) fun n => .ex (fun (x : Pr × QOp) => eqL [AV.ptr 0 0, AV.fn 47 [] []] [AV.ptr 0 0, AV.fn (QOp.fn x.2) [] []] ∧ eqH [.box [AV.str n.n, AV.str n.m, AV.str n.d, AV.str n.c, AV.int .i64 n.e]] [.box [AV.str x.1.n, AV.str x.1.m, AV.str x.1.d, AV.str x.1.c, AV.int .i64 x.1.e]] ∧ 1 = 1 ∧ True) fun n => .all (fun (x : Unit) => True) fun n_1 => .ex (fun (x : Pr × QOp) => eqL [AV.ptr 0 0, AV.fn 61 [] []] [AV.ptr 0 0, AV.fn (QOp.fn x.2) [] []] ∧ eqH [.box [AV.str n.1.n, AV.str n.1.m, AV.str n.1.d, AV.str n.1.c, AV.int .i64 n.1.e]] [.box [AV.str x.1.n, AV.str x.1.m, AV.str x.1.d, AV.str x.1.c, AV.int .i64 x.1.e]] ∧ 1 = 1 ∧ True) fun n_2 => .all (fun (x : Unit) => True) fun n_3 => .side ((0 : Int) ≤ 0 ∧ (0 : Int) < 2) (.side ((0 : Int) ≤ 1 ∧ (1 : Int) < 2) (.side ((0 : Int) ≤ 1 ∧ (1 : Int) < 2) (.side ((0 : Int) ≤ 0 ∧ (0 : Int) < 2) (.side ((0 : Int) ≤ 0 ∧ (0 : Int) < 2) (.side ((0 : Int) ≤ 1 ∧ (1 : Int) < 2) (.ex (fun (x : KX) => eqL [AV.str n_2.1.n, AV.str n_2.1.c, AV.ptr 0 0, AV.ptr 2 0] [AV.str x.x, AV.str x.y, AV.ptr 0 0, AV.ptr 2 0] ∧ eqH [.box [AV.ptr 1 0], .box [AV.str n_2.1.n, AV.str n_2.1.m, AV.str n_2.1.d, AV.str n_2.1.c, AV.int .i64 n_2.1.e], .box [AV.fn (QOp.fn n.2) [] []]] [.box [AV.ptr 1 0], .box [AV.str x.p.n, AV.str x.p.m, AV.str x.p.d, AV.str x.p.c, AV.int .i64 x.p.e], .box [AV.fn (QOp.fn x.o) [] []]] ∧ 3 = 3 ∧ x.x.length < 4611686018427387904 ∧ x.y.length < 4611686018427387904 ∧ QOp.has x.o) fun n => .all (fun (r : List UInt8 × Int) => r = if Pr.e n.p ≠ 0 then ([], Pr.e n.p) else QOp.op n.o n.x n.y) fun n_4 => .side (Pr.c (Pr.err n.p n_4.2) = Pr.c n_2.1) (.side (Pr.d (Pr.err n.p n_4.2) = Pr.d n_2.1) (.side (Pr.d (Pr.err n.p n_4.2) = Pr.d n_2.1) (.side (Pr.m (Pr.err n.p n_4.2) = Pr.m n_2.1) (.ex (fun (x : KX) => eqL [AV.str n_2.1.m, AV.str n_2.1.d, AV.ptr 0 0, AV.ptr 2 0] [AV.str x.x, AV.str x.y, AV.ptr 0 0, AV.ptr 2 0] ∧ eqH [.box [AV.ptr 1 0], .box [AV.str (Pr.n (Pr.err n.p n_4.2)), AV.str (Pr.m (Pr.err n.p n_4.2)), AV.str (Pr.d (Pr.err n.p n_4.2)), AV.str (Pr.c (Pr.err n.p n_4.2)), AV.int .i64 (Pr.e (Pr.err n.p n_4.2))], .box [AV.fn (QOp.fn n.o) [] []]] [.box [AV.ptr 1 0], .box [AV.str x.p.n, AV.str x.p.m, AV.str x.p.d, AV.str x.p.c, AV.int .i64 x.p.e], .box [AV.fn (QOp.fn x.o) [] []]] ∧ 3 = 3 ∧ x.x.length < 4611686018427387904 ∧ x.y.length < 4611686018427387904 ∧ QOp.has x.o) fun n => .all (fun (r : List UInt8 × Int) => r = if Pr.e n.p ≠ 0 then ([], Pr.e n.p) else QOp.op n.o n.x n.y) fun n_5 => .side (Pr.c (Pr.err n.p n_5.2) = Pr.c n_2.1) (.side (Pr.d (Pr.err n.p n_5.2) = Pr.d n_2.1) (.ex (fun (x : KX) => eqL [AV.str n_4.1, AV.str n_5.1, AV.ptr 0 0, AV.ptr 2 0] [AV.str x.x, AV.str x.y, AV.ptr 0 0, AV.ptr 2 0] ∧ eqH [.box [AV.ptr 1 0], .box [AV.str (Pr.n (Pr.err n.p n_5.2)), AV.str (Pr.m (Pr.err n.p n_5.2)), AV.str (Pr.d (Pr.err n.p n_5.2)), AV.str (Pr.c (Pr.err n.p n_5.2)), AV.int .i64 (Pr.e (Pr.err n.p n_5.2))], .box [AV.fn (QOp.fn n_2.2) [] []]] [.box [AV.ptr 1 0], .box [AV.str x.p.n, AV.str x.p.m, AV.str x.p.d, AV.str x.p.c, AV.int .i64 x.p.e], .box [AV.fn (QOp.fn x.o) [] []]] ∧ 3 = 3 ∧ x.x.length < 4611686018427387904 ∧ x.y.length < 4611686018427387904 ∧ QOp.has x.o) fun n_6 => .all (fun (r : List UInt8 × Int) => r = if Pr.e n_6.p ≠ 0 then ([], Pr.e n_6.p) else QOp.op n_6.o n_6.x n_6.y) fun n_7 => .side (Pr.c (Pr.err n_6.p n_7.2) = Pr.c n_2.1) (.side (Pr.d (Pr.err n_6.p n_7.2) = Pr.d n_2.1) (.ex (fun (x : KX) => eqL [AV.str n_2.1.d, AV.str n_2.1.c, AV.ptr 0 0, AV.ptr 2 0] [AV.str x.x, AV.str x.y, AV.ptr 0 0, AV.ptr 2 0] ∧ eqH [.box [AV.ptr 1 0], .box [AV.str (Pr.n (Pr.err n_6.p n_7.2)), AV.str (Pr.m (Pr.err n_6.p n_7.2)), AV.str (Pr.d (Pr.err n_6.p n_7.2)), AV.str (Pr.c (Pr.err n_6.p n_7.2)), AV.int .i64 (Pr.e (Pr.err n_6.p n_7.2))], .box [AV.fn (QOp.fn n.o) [] []]] [.box [AV.ptr 1 0], .box [AV.str x.p.n, AV.str x.p.m, AV.str x.p.d, AV.str x.p.c, AV.int .i64 x.p.e], .box [AV.fn (QOp.fn x.o) [] []]] ∧ 3 = 3 ∧ x.x.length < 4611686018427387904 ∧ x.y.length < 4611686018427387904 ∧ QOp.has x.o) fun n => .all (fun (r : List UInt8 × Int) => r = if Pr.e n.p ≠ 0 then ([], Pr.e n.p) else QOp.op n.o n.x n.y) fun n_8 => .ex (fun (x : Pr × List UInt8 × List UInt8) => eqL [AV.ptr 0 0, AV.str n_7.1, AV.str n_8.1] [AV.ptr 0 0, AV.str x.2.1, AV.str x.2.2] ∧ eqH [.box [AV.str (Pr.n (Pr.err n.p n_8.2)), AV.str (Pr.m (Pr.err n.p n_8.2)), AV.str (Pr.d (Pr.err n.p n_8.2)), AV.str (Pr.c (Pr.err n.p n_8.2)), AV.int .i64 (Pr.e (Pr.err n.p n_8.2))]] [.box [AV.str x.1.n, AV.str x.1.m, AV.str x.1.d, AV.str x.1.c, AV.int .i64 x.1.e]] ∧ 1 = 1 ∧ x.2.1.length < 4611686018427387904 ∧ x.2.2.length < 4611686018427387904) fun n_9 => .all (fun (r : List UInt8 × Int) => r = if Pr.e n_9.1 ≠ 0 then ([], Pr.e n_9.1) else qC n_9.2.1 n_9.2.2) fun n_10 => .leaf (.ret [.str n_10.1, .int .i64 n_10.2] [.box [.str n_9.1.n, .str n_9.1.m, .str n_9.1.d, .str n_9.1.c, .int .i64 n_9.1.e], .box [.ptr 0 0], .box [.fn (QOp.fn n.o) [] []], .box [.ptr 0 0], .box [.fn (QOp.fn n_6.o) [] []]])))))))))))))))) (by kernel_rfl) ?_
 simp only [Tree.holds, zc]
 refine ⟨(a, b), ⟨⟨rfl, rfl, trivial⟩, trivial, by trivial, by show a.length < _; omega, by show b.length < _; omega⟩, ⟨_, rfl⟩, ?_⟩
 intro p hp
 have hc := k8 a b
 obtain ⟨l1, l2, l3, l4⟩ := uc a b
 rw [← hp] at hc l1 l2 l3 l4
 refine ⟨(p, .mul), ⟨kx_k _, kx_b p, by trivial, trivial⟩, ⟨(), trivial⟩, ?_⟩
 intro _ _
 refine ⟨(p, .add), ⟨kx_k _, kx_b p, by trivial, trivial⟩, ⟨(), trivial⟩, ?_⟩
 intro _ _
 iterate 6 refine ⟨by decide, fun _ => ?_⟩
 refine ⟨⟨p, .mul, p.n, p.c⟩, ⟨kx_l _ _, kx_h (p) _, by trivial, by show (p.n).length < _; omega, by show (p.c).length < _; omega, by trivial⟩, ⟨_, rfl⟩, ?_⟩
 intro r1 hr1
 have kr1 := jn _ _ _ _ hr1
 iterate 4 refine ⟨rfl, fun _ => ?_⟩
 refine ⟨⟨p.err r1.2, .mul, p.m, p.d⟩, ⟨kx_l _ _, kx_h (p.err r1.2) _, by trivial, by show (p.m).length < _; omega, by show (p.d).length < _; omega, by trivial⟩, ⟨_, rfl⟩, ?_⟩
 intro r2 hr2
 have kr2 := jn _ _ _ _ hr2
 iterate 2 refine ⟨rfl, fun _ => ?_⟩
 refine ⟨⟨(p.err r1.2).err r2.2, .add, r1.1, r2.1⟩, ⟨kx_l _ _, kx_h ((p.err r1.2).err r2.2) _, by trivial, by show (r1.1).length < _; omega, by show (r2.1).length < _; omega, by trivial⟩, ⟨_, rfl⟩, ?_⟩
 intro r3 hr3
 have kr3 := jn _ _ _ _ hr3
 iterate 2 refine ⟨rfl, fun _ => ?_⟩
 refine ⟨⟨((p.err r1.2).err r2.2).err r3.2, .mul, p.d, p.c⟩, ⟨kx_l _ _, kx_h (((p.err r1.2).err r2.2).err r3.2) _, by trivial, by show (p.d).length < _; omega, by show (p.c).length < _; omega, by trivial⟩, ⟨_, rfl⟩, ?_⟩
 intro r4 hr4
 have kr4 := jn _ _ _ _ hr4
 refine ⟨((((p.err r1.2).err r2.2).err r3.2).err r4.2, r3.1, r4.1), ⟨kx_m _ _, kx_b _, by trivial, by show (r3.1).length < _; omega, by show (r4.1).length < _; omega⟩, ⟨_, rfl⟩, ?_⟩
 intro r5 hr5
 have hfin := Vc hc (fun {s t} => UM (s := s) (t := t)) hr1 hr2 hr3 hr4 hr5
 have e : r5 = addR a b := hfin
 rw [← e] at hq
 exact RetR.scal hq rfl (by simp [resV])
theorem zce : zd Tryz.prog 34 ze6 := by
 refine ze (fn := Tryz.f34) (c := Tryz.f34.body.getD .skip) rfl rfl rfl fun p hp O w0 Q hq => ?_
 obtain ⟨a, b⟩ := p
 obtain ⟨h1, h2⟩ := hp
 replace hq := hq _ rfl
 simp only at h1 h2 hq
 refine zb.run hmix Kz [] 400 (T := .ex (fun (x : List UInt8 × List UInt8) => eqL [AV.str a, AV.str b] [AV.str x.1, AV.str x.2] ∧ eqH [] [] ∧ 0 = 0 ∧ x.1.length < 4611686018427387904 ∧ x.2.length < 4611686018427387904) fun n => .all (fun (r : Pr) => r = qX n.1 n.2) fun n => .ex (fun (x : Pr × QOp) => eqL [AV.ptr 0 0, AV.fn 47 [] []] [AV.ptr 0 0, AV.fn (QOp.fn x.2) [] []] ∧ eqH [.box [AV.str n.n, AV.str n.m, AV.str n.d, AV.str n.c, AV.int .i64 n.e]] [.box [AV.str x.1.n, AV.str x.1.m, AV.str x.1.d, AV.str x.1.c, AV.int .i64 x.1.e]] ∧ 1 = 1 ∧ True) fun n => .all (fun (x : Unit) => True) fun n_1 => .side ((0 : Int) ≤ 0 ∧ (0 : Int) < 2) (.side ((0 : Int) ≤ 1 ∧ (1 : Int) < 2) (.side ((0 : Int) ≤ 0 ∧ (0 : Int) < 2) (.side ((0 : Int) ≤ 1 ∧ (1 : Int) < 2) (.ex (fun (x : KX) => eqL [AV.str n.1.n, AV.str n.1.m, AV.ptr 0 0, AV.ptr 2 0] [AV.str x.x, AV.str x.y, AV.ptr 0 0, AV.ptr 2 0] ∧ eqH [.box [AV.ptr 1 0], .box [AV.str n.1.n, AV.str n.1.m, AV.str n.1.d, AV.str n.1.c, AV.int .i64 n.1.e], .box [AV.fn (QOp.fn n.2) [] []]] [.box [AV.ptr 1 0], .box [AV.str x.p.n, AV.str x.p.m, AV.str x.p.d, AV.str x.p.c, AV.int .i64 x.p.e], .box [AV.fn (QOp.fn x.o) [] []]] ∧ 3 = 3 ∧ x.x.length < 4611686018427387904 ∧ x.y.length < 4611686018427387904 ∧ QOp.has x.o) fun n_2 => .all (fun (r : List UInt8 × Int) => r = if Pr.e n_2.p ≠ 0 then ([], Pr.e n_2.p) else QOp.op n_2.o n_2.x n_2.y) fun n_3 => .side (Pr.c (Pr.err n_2.p n_3.2) = Pr.c n.1) (.side (Pr.d (Pr.err n_2.p n_3.2) = Pr.d n.1) (.ex (fun (x : KX) => eqL [AV.str n.1.d, AV.str n.1.c, AV.ptr 0 0, AV.ptr 2 0] [AV.str x.x, AV.str x.y, AV.ptr 0 0, AV.ptr 2 0] ∧ eqH [.box [AV.ptr 1 0], .box [AV.str (Pr.n (Pr.err n_2.p n_3.2)), AV.str (Pr.m (Pr.err n_2.p n_3.2)), AV.str (Pr.d (Pr.err n_2.p n_3.2)), AV.str (Pr.c (Pr.err n_2.p n_3.2)), AV.int .i64 (Pr.e (Pr.err n_2.p n_3.2))], .box [AV.fn (QOp.fn n_2.o) [] []]] [.box [AV.ptr 1 0], .box [AV.str x.p.n, AV.str x.p.m, AV.str x.p.d, AV.str x.p.c, AV.int .i64 x.p.e], .box [AV.fn (QOp.fn x.o) [] []]] ∧ 3 = 3 ∧ x.x.length < 4611686018427387904 ∧ x.y.length < 4611686018427387904 ∧ QOp.has x.o) fun n => .all (fun (r : List UInt8 × Int) => r = if Pr.e n.p ≠ 0 then ([], Pr.e n.p) else QOp.op n.o n.x n.y) fun n_4 => .ex (fun (x : Pr × List UInt8 × List UInt8) => eqL [AV.ptr 0 0, AV.str n_3.1, AV.str n_4.1] [AV.ptr 0 0, AV.str x.2.1, AV.str x.2.2] ∧ eqH [.box [AV.str (Pr.n (Pr.err n.p n_4.2)), AV.str (Pr.m (Pr.err n.p n_4.2)), AV.str (Pr.d (Pr.err n.p n_4.2)), AV.str (Pr.c (Pr.err n.p n_4.2)), AV.int .i64 (Pr.e (Pr.err n.p n_4.2))]] [.box [AV.str x.1.n, AV.str x.1.m, AV.str x.1.d, AV.str x.1.c, AV.int .i64 x.1.e]] ∧ 1 = 1 ∧ x.2.1.length < 4611686018427387904 ∧ x.2.2.length < 4611686018427387904) fun n_5 => .all (fun (r : List UInt8 × Int) => r = if Pr.e n_5.1 ≠ 0 then ([], Pr.e n_5.1) else qC n_5.2.1 n_5.2.2) fun n_6 => .leaf (.ret [.str n_6.1, .int .i64 n_6.2] [.box [.str n_5.1.n, .str n_5.1.m, .str n_5.1.d, .str n_5.1.c, .int .i64 n_5.1.e], .box [.ptr 0 0], .box [.fn (QOp.fn n.o) [] []]])))))))) (by kernel_rfl) ?_
 simp only [Tree.holds, zc]
 refine ⟨(a, b), ⟨⟨rfl, rfl, trivial⟩, trivial, by trivial, by show a.length < _; omega, by show b.length < _; omega⟩, ⟨_, rfl⟩, ?_⟩
 intro p hp
 have hc := k8 a b
 obtain ⟨l1, l2, l3, l4⟩ := uc a b
 rw [← hp] at hc l1 l2 l3 l4
 refine ⟨(p, .mul), ⟨kx_k _, kx_b p, by trivial, trivial⟩, ⟨(), trivial⟩, ?_⟩
 intro _ _
 iterate 4 refine ⟨by decide, fun _ => ?_⟩
 refine ⟨⟨p, .mul, p.n, p.m⟩, ⟨kx_l _ _, kx_h (p) _, by trivial, by show (p.n).length < _; omega, by show (p.m).length < _; omega, by trivial⟩, ⟨_, rfl⟩, ?_⟩
 intro r1 hr1
 have kr1 := jn _ _ _ _ hr1
 iterate 2 refine ⟨rfl, fun _ => ?_⟩
 refine ⟨⟨p.err r1.2, .mul, p.d, p.c⟩, ⟨kx_l _ _, kx_h (p.err r1.2) _, by trivial, by show (p.d).length < _; omega, by show (p.c).length < _; omega, by trivial⟩, ⟨_, rfl⟩, ?_⟩
 intro r2 hr2
 have kr2 := jn _ _ _ _ hr2
 refine ⟨((p.err r1.2).err r2.2, r1.1, r2.1), ⟨kx_m _ _, kx_b _, by trivial, by show (r1.1).length < _; omega, by show (r2.1).length < _; omega⟩, ⟨_, rfl⟩, ?_⟩
 intro r3 hr3
 have hv : errR a = 0 → errR b = 0 → zo p.n p.m = 0 ∧ zo p.d p.c = 0 := by
  intro ha hb
  obtain ⟨a1, a2, _⟩ := q6 ha
  obtain ⟨b1, b2, _⟩ := q6 hb
  rcases hc with ⟨g1, g2⟩ | ⟨_, _, _, g1, g2, g3, g4⟩
  ·exact absurd g2 (by unfold qj; rw [if_pos ha, hb]; exact fun h => g1 h.symm)
  ·rw [g1, g2, g3, g4]; exact ⟨zl.2 ⟨a1, b1⟩, zl.2 ⟨a2, b2⟩⟩
 have hfin := YM hc hr1 hr2 hr3 hv
 have e : r3 = mulR a b := by
  rw [hfin]
  unfold mulR
  rcases hc with ⟨g1, g2⟩ | ⟨_, _, _, g1, g2, g3, g4⟩
  ·rw [if_pos (by rw [g2]; exact g1), if_pos (by rw [g2]; exact g1)]
  ·rw [g1, g2, g3, g4]
 rw [← e] at hq
 exact RetR.scal hq rfl (by simp [resV])
theorem zdr : zd Tryz.prog 21 zer := by
 refine ze (fn := Tryz.f21) (c := Tryz.f21.body.getD .skip) rfl rfl rfl fun p hp O w0 Q hq => ?_
 obtain ⟨a, b⟩ := p
 obtain ⟨h1, h2⟩ := hp
 replace hq := hq _ rfl
 simp only at h1 h2 hq
 refine zb.run hmix Kz [] 400 (T := .ex (fun (x : List UInt8 × List UInt8) => eqL [AV.str a, AV.str b] [AV.str x.1, AV.str x.2] ∧ eqH [] [] ∧ 0 = 0 ∧ x.1.length < 4611686018427387904 ∧ x.2.length < 4611686018427387904) fun n => .all (fun (r : Pr) => r = qX n.1 n.2) fun n => .ex (fun (x : Pr × QOp) => eqL [AV.ptr 0 0, AV.fn 47 [] []] [AV.ptr 0 0, AV.fn (QOp.fn x.2) [] []] ∧ eqH [.box [AV.str n.n, AV.str n.m, AV.str n.d, AV.str n.c, AV.int .i64 n.e]] [.box [AV.str x.1.n, AV.str x.1.m, AV.str x.1.d, AV.str x.1.c, AV.int .i64 x.1.e]] ∧ 1 = 1 ∧ True) fun n => .all (fun (x : Unit) => True) fun n_1 => .side ((0 : Int) ≤ 0 ∧ (0 : Int) < 2) (.side ((0 : Int) ≤ 1 ∧ (1 : Int) < 2) (.side ((0 : Int) ≤ 1 ∧ (1 : Int) < 2) (.side ((0 : Int) ≤ 0 ∧ (0 : Int) < 2) (.ex (fun (x : KX) => eqL [AV.str n.1.n, AV.str n.1.c, AV.ptr 0 0, AV.ptr 2 0] [AV.str x.x, AV.str x.y, AV.ptr 0 0, AV.ptr 2 0] ∧ eqH [.box [AV.ptr 1 0], .box [AV.str n.1.n, AV.str n.1.m, AV.str n.1.d, AV.str n.1.c, AV.int .i64 n.1.e], .box [AV.fn (QOp.fn n.2) [] []]] [.box [AV.ptr 1 0], .box [AV.str x.p.n, AV.str x.p.m, AV.str x.p.d, AV.str x.p.c, AV.int .i64 x.p.e], .box [AV.fn (QOp.fn x.o) [] []]] ∧ 3 = 3 ∧ x.x.length < 4611686018427387904 ∧ x.y.length < 4611686018427387904 ∧ QOp.has x.o) fun n_2 => .all (fun (r : List UInt8 × Int) => r = if Pr.e n_2.p ≠ 0 then ([], Pr.e n_2.p) else QOp.op n_2.o n_2.x n_2.y) fun n_3 => .side (Pr.d (Pr.err n_2.p n_3.2) = Pr.d n.1) (.side (Pr.m (Pr.err n_2.p n_3.2) = Pr.m n.1) (.ex (fun (x : KX) => eqL [AV.str n.1.m, AV.str n.1.d, AV.ptr 0 0, AV.ptr 2 0] [AV.str x.x, AV.str x.y, AV.ptr 0 0, AV.ptr 2 0] ∧ eqH [.box [AV.ptr 1 0], .box [AV.str (Pr.n (Pr.err n_2.p n_3.2)), AV.str (Pr.m (Pr.err n_2.p n_3.2)), AV.str (Pr.d (Pr.err n_2.p n_3.2)), AV.str (Pr.c (Pr.err n_2.p n_3.2)), AV.int .i64 (Pr.e (Pr.err n_2.p n_3.2))], .box [AV.fn (QOp.fn n_2.o) [] []]] [.box [AV.ptr 1 0], .box [AV.str x.p.n, AV.str x.p.m, AV.str x.p.d, AV.str x.p.c, AV.int .i64 x.p.e], .box [AV.fn (QOp.fn x.o) [] []]] ∧ 3 = 3 ∧ x.x.length < 4611686018427387904 ∧ x.y.length < 4611686018427387904 ∧ QOp.has x.o) fun n => .all (fun (r : List UInt8 × Int) => r = if Pr.e n.p ≠ 0 then ([], Pr.e n.p) else QOp.op n.o n.x n.y) fun n_4 => .ite (!decide (Pr.e (Pr.err n.p n_4.2) = (0 : Int))) (.leaf (.ret [.int .i64 0, .int .i64 (Pr.e (Pr.err n.p n_4.2))] [.box [.str (Pr.n (Pr.err n.p n_4.2)), .str (Pr.m (Pr.err n.p n_4.2)), .str (Pr.d (Pr.err n.p n_4.2)), .str (Pr.c (Pr.err n.p n_4.2)), .int .i64 (Pr.e (Pr.err n.p n_4.2))], .box [.ptr 0 0], .box [.fn (QOp.fn n.o) [] []]])) (.ex (fun (x : List UInt8 × List UInt8) => eqL [AV.str n_3.1, AV.str n_4.1] [AV.str x.1, AV.str x.2] ∧ x.1.length < 4611686018427387904 ∧ x.2.length < 4611686018427387904) fun n_5 => .all (fun (r : Int × Int) => r = uz n_5.1 n_5.2) fun n_6 => .leaf (.ret [.int .i64 n_6.1, .int .i64 n_6.2] [.box [.str (Pr.n (Pr.err n.p n_4.2)), .str (Pr.m (Pr.err n.p n_4.2)), .str (Pr.d (Pr.err n.p n_4.2)), .str (Pr.c (Pr.err n.p n_4.2)), .int .i64 (Pr.e (Pr.err n.p n_4.2))], .box [.ptr 0 0], .box [.fn (QOp.fn n.o) [] []]]))))))))) (by kernel_rfl) ?_
 simp only [Tree.holds, zc]
 refine ⟨(a, b), ⟨⟨rfl, rfl, trivial⟩, trivial, by trivial, by show a.length < _; omega, by show b.length < _; omega⟩, ⟨_, rfl⟩, ?_⟩
 intro p hp
 have hc := k8 a b
 obtain ⟨l1, l2, l3, l4⟩ := uc a b
 rw [← hp] at hc l1 l2 l3 l4
 refine ⟨(p, .mul), ⟨kx_k _, kx_b p, by trivial, trivial⟩, ⟨(), trivial⟩, ?_⟩
 intro _ _
 iterate 4 refine ⟨by decide, fun _ => ?_⟩
 refine ⟨⟨p, .mul, p.n, p.c⟩, ⟨kx_l _ _, kx_h (p) _, by trivial, by show (p.n).length < _; omega, by show (p.c).length < _; omega, by trivial⟩, ⟨_, rfl⟩, ?_⟩
 intro r1 hr1
 have kr1 := jn _ _ _ _ hr1
 iterate 2 refine ⟨rfl, fun _ => ?_⟩
 refine ⟨⟨p.err r1.2, .mul, p.m, p.d⟩, ⟨kx_l _ _, kx_h (p.err r1.2) _, by trivial, by show (p.m).length < _; omega, by show (p.d).length < _; omega, by trivial⟩, ⟨_, rfl⟩, ?_⟩
 intro r2 hr2
 have kr2 := jn _ _ _ _ hr2
 have hfin := Yf hc hr1 hr2
 refine ⟨fun h => ?_, fun h => ⟨(r1.1, r2.1), ⟨⟨rfl, rfl, trivial⟩, by show r1.1.length < _; omega, by show r2.1.length < _; omega⟩, ⟨_, rfl⟩, ?_⟩⟩
 ·have h : r2.2 ≠ 0 := by
   intro h0
   have h' : (!decide (r2.2 = 0)) = true := h
   rw [h0] at h'; cases h'
  rw [if_pos h] at hfin
  rw [← hfin] at hq
  exact RetR.scal hq rfl (by simp [resV, Pr.err])
 ·have h : r2.2 = 0 := by
   have h' : (!decide (r2.2 = 0)) = false := h
   cases hd : decide (r2.2 = 0) with
   | true => exact of_decide_eq_true hd
   | false => rw [hd] at h'; cases h'
  rw [if_neg (by rw [h]; simp)] at hfin
  rintro _ rfl
  rw [← hfin] at hq
  exact RetR.scal hq rfl (by simp [resV])
end Go.Proofs.Tryz
end

/- Orders of what is known. -/
section
namespace Go.Nov
open Go.Sx
def cmpS (s t : List UInt8) : Int := if Op.bytesLess s t then -1 else if s = t then 0 else 1
def cmpI (x y : Int) : Int := if x < y then -1 else if y < x then 1 else 0
def orI : List Int → Int
 | [] => 0
 | x :: l => if x = 0 then orI l else x
structure Fx where
 name : List UInt8
 date : Int
 value : List UInt8
structure Ch where
 zL : List UInt8
 name : List UInt8
 date : Int
 first : Bool
abbrev Fx.nil : Fx := ⟨[], 0, []⟩
abbrev Ch.nil : Ch := ⟨[], [], 0, false⟩
def Fx.cell (f : Fx) : Nat → AV
 | 0 => .str f.name
 | 1 => .int .i64 f.date
 | 2 => .str f.value
 | _ => .undef
def Ch.cell (c : Ch) : Nat → AV
 | 0 => .str c.zL
 | 1 => .str c.name
 | 2 => .int .i64 c.date
 | 3 => .bool c.first
 | _ => .undef
def fxG (l : List Fx) : Nat → Nat → AV := fun j => (l.getD j Fx.nil).cell
def chG (l : List Ch) : Nat → Nat → AV := fun j => (l.getD j Ch.nil).cell
def Fx.av (f : Fx) : AV := .agg [.str f.name, .int .i64 f.date, .str f.value]
def Ch.av (c : Ch) : AV := .agg [.str c.zL, .str c.name, .int .i64 c.date, .bool c.first]
def fxS (l : List Fx) : AV := .sl l.length 3 (fxG l)
def chS (l : List Ch) : AV := .sl l.length 4 (chG l)
def envA (f : List Fx) (c : List Ch) : AV := .agg [fxS f, chS c]
def cmpF (a b : Fx) : Int := if cmpS a.name b.name = 0 then cmpI a.date b.date else cmpS a.name b.name
def cmpC (a b : Ch) : Int := if cmpS a.zL b.zL = 0 then (if cmpS a.name b.name = 0 then cmpI a.date b.date else cmpS a.name b.name) else cmpS a.zL b.zL
end Go.Nov
namespace Go.Nov
def okF (f : Fx) : Bool := zD f.name && dayB f.date && decide (errR f.value = 0)
def okC (c : Ch) : Bool := zD c.zL && zD c.name && dayB c.date
def idxB {α : Type} (p : α → Bool) (l : List α) : Int := if l.findIdx p < l.length then (l.findIdx p : Int) else -1
theorem Wn {α : Type} (p : α → Bool) (l : List α) : decide (0 ≤ idxB p l) = l.any p := by
 unfold idxB
 by_cases h : l.findIdx p < l.length
 ·rw [if_pos h]
  have : l.any p = true := by
   rw [List.any_eq_true]
   exact ⟨_, List.getElem_mem h, List.findIdx_getElem (w := h)⟩
  rw [this]; simp
 ·rw [if_neg h]
  have : l.any p = false := by
   rw [List.any_eq_false]
   intro x hx hpx
   exact h (List.findIdx_lt_length_of_exists ⟨x, hx, hpx⟩)
  rw [this]; rfl
theorem XF {α : Type} {p : α → Bool} {l : List α} {z : α} {i : Nat} (hi : i < l.length) (h : p (l.getD i z) = true) (hb : ∀ j, j < i → p (l.getD j z) = false) : idxB p l = i := by
 have hlt : l.findIdx p < l.length := List.findIdx_lt_length_of_exists ⟨l[i], List.getElem_mem hi, by simpa [List.getD, hi] using h⟩
 have e : l.findIdx p = i := by
  rcases Nat.lt_trichotomy (l.findIdx p) i with h1 | h1 | h1
  ·have h2 := List.findIdx_getElem (w := hlt)
   have h3 := hb _ h1
   simp only [List.getD, List.getElem?_eq_getElem hlt, Option.getD_some] at h3
   rw [h2] at h3; cases h3
  ·exact h1
  ·have h2 := List.not_of_lt_findIdx h1
   simp only [List.getD, List.getElem?_eq_getElem hi, Option.getD_some] at h
   exact absurd h (by simpa using h2)
 unfold idxB
 rw [if_pos hlt, e]
theorem Q6 {α : Type} {p : α → Bool} {l : List α} {z : α} (hb : ∀ j, j < l.length → p (l.getD j z) = false) : idxB p l = -1 := by
 unfold idxB
 rw [if_neg]
 intro h
 have h2 := List.findIdx_getElem (w := h)
 have h3 := hb _ h
 simp only [List.getD, List.getElem?_eq_getElem h, Option.getD_some] at h3
 rw [h2] at h3; cases h3
end Go.Nov
namespace Go.Nov
def ordB {α : Type} (c : α → α → Int) (z : α) (l : List α) : Bool := (List.range (l.length - 1)).all fun i => decide (c (l.getD i z) (l.getD (i + 1) z) < 0)
theorem kF {α : Type} {c : α → α → Int} {z : α} {l : List α} (h : ∀ j, j + 1 < l.length → c (l.getD j z) (l.getD (j + 1) z) < 0) : ordB c z l = true := by
 simp only [ordB, List.all_eq_true, List.mem_range, decide_eq_true_eq]
 exact fun j hj => h j (by omega)
theorem xO {α : Type} {c : α → α → Int} {z : α} {l : List α} {j : Nat} (hj : j + 1 < l.length) (h : ¬ c (l.getD j z) (l.getD (j + 1) z) < 0) : ordB c z l = false := by
 simp only [ordB, List.all_eq_false, List.mem_range]
 exact ⟨j, by omega, by simpa using h⟩
def errE (f : List Fx) (c : List Ch) : Int := if 1000 < f.length ∨ 1000 < c.length then 4 else if (f.all okF && c.all okC && ordB cmpF Fx.nil f && ordB cmpC Ch.nil c) = true then 0 else 8
end Go.Nov
namespace Go.Nov
theorem Wc {x y : Int} : cmpI x y < 0 ↔ x < y := by
 unfold cmpI
 split
 ·rename_i h; exact ⟨fun _ => h, fun _ => by decide⟩
 ·rename_i h
  split
  ·exact ⟨fun h2 => by omega, fun h2 => absurd h2 h⟩
  ·exact ⟨fun h2 => by omega, fun h2 => absurd h2 h⟩
theorem uq {s t : List UInt8} {n : Int} {b : Bool} (hb : b = decide (n < 0)) : (bif Op.bytesLess s t then true else bif decide (s = t) then b else false) = decide ((if cmpS s t = 0 then n else cmpS s t) < 0) := by
 unfold cmpS
 cases Op.bytesLess s t with
 | true => rfl
 | false =>
  by_cases h : s = t
  ·simp [h, hb]
  ·simp [h]
end Go.Nov
namespace Go.Nov
theorem Fx.eq_iff {a b : Fx} : (decide (a.name = b.name) && (decide (a.date = b.date) && (decide (a.value = b.value) && true))) = true ↔ a = b := by
 cases a; cases b
 simp [Fx.mk.injEq]
theorem Ch.eq_iff {a b : Ch} : (decide (a.zL = b.zL) && (decide (a.name = b.name) && (decide (a.date = b.date) && ((a.first == b.first) && true)))) = true ↔ a = b := by
 cases a; cases b
 simp [Ch.mk.injEq]
theorem WB {α : Type} {l m : List α} {z : α} (hl : l.length = m.length) (h : ∀ j, j < l.length → l.getD j z = m.getD j z) : l = m := by
 apply List.ext_getElem hl
 intro j h1 h2
 have := h j h1
 simpa [List.getD, h1, h2] using this
end Go.Nov
end

/- A place in an ordered list. -/
section
namespace Go.Nov
open Go.Sx
theorem kB : ∀ s : List UInt8, Op.bytesLess s s = false
 | [] => rfl
 | a :: s => by simp [Op.bytesLess, kB s]
theorem kD : ∀ {s t u : List UInt8}, Op.bytesLess s t = true → Op.bytesLess t u = true → Op.bytesLess s u = true
 | s, [], u, h, _ => by cases s <;> simp [Op.bytesLess] at h
 | [], b :: t, [], _, h => by simp [Op.bytesLess] at h
 | [], b :: t, c :: u, _, _ => rfl
 | a :: s, b :: t, [], _, h => by simp [Op.bytesLess] at h
 | a :: s, b :: t, c :: u, h, k => by
  simp only [Op.bytesLess, Bool.or_eq_true, Bool.and_eq_true, decide_eq_true_eq, beq_iff_eq] at h k ⊢
  rcases h with h | ⟨rfl, h⟩
  ·rcases k with k | ⟨rfl, k⟩
   ·exact .inl (UInt8.lt_trans h k)
   ·exact .inl h
  ·rcases k with k | ⟨rfl, k⟩
   ·exact .inl k
   ·exact .inr ⟨rfl, kD h k⟩
theorem Xk {s t : List UInt8} : cmpS s t < 0 ↔ Op.bytesLess s t = true := by
 unfold cmpS
 cases Op.bytesLess s t with
 | true => simp
 | false => by_cases h : s = t <;> simp [h]
theorem xi {s t : List UInt8} : cmpS s t = 0 ↔ s = t := by
 unfold cmpS
 cases hb : Op.bytesLess s t with
 | true =>
  simp only [if_true]
  refine ⟨fun h => by omega, fun h => ?_⟩
  subst h; rw [kB] at hb; cases hb
 | false => by_cases h : s = t <;> simp [h]
theorem zc7 {x y : Int} : cmpI x y = 0 ↔ x = y := by
 unfold cmpI
 split
 ·exact ⟨fun h => by omega, fun h => by omega⟩
 ·split
  ·exact ⟨fun h => by omega, fun h => by omega⟩
  ·exact ⟨fun _ => by omega, fun _ => rfl⟩
theorem vP {a b : Fx} : cmpF a b = 0 ↔ a.name = b.name ∧ a.date = b.date := by
 unfold cmpF
 by_cases h : cmpS a.name b.name = 0
 ·rw [if_pos h, zc7]; exact ⟨fun h2 => ⟨xi.1 h, h2⟩, fun h2 => h2.2⟩
 ·rw [if_neg h]; exact ⟨fun h2 => absurd h2 h, fun h2 => absurd (xi.2 h2.1) h⟩
theorem wu {a b : Fx} : cmpF a b < 0 ↔ Op.bytesLess a.name b.name = true ∨ a.name = b.name ∧ a.date < b.date := by
 unfold cmpF
 by_cases h : cmpS a.name b.name = 0
 ·rw [if_pos h, Wc]
  have h2 := xi.1 h
  rw [h2, kB]
  simp
 ·rw [if_neg h, Xk]
  exact ⟨fun h2 => .inl h2, fun h2 => h2.elim id fun h3 => absurd (xi.2 h3.1) h⟩
structure OrdK {α : Type} (c : α → α → Int) : Prop where
 lt : ∀ a b d, c a b < 0 → c b d < 0 → c a d < 0
 eq : ∀ a b d, c a b < 0 → c b d = 0 → c a d < 0
theorem Zm : OrdK cmpF where
 lt a b d h k := by
  rw [wu] at *
  rcases h with h | ⟨h1, h2⟩
  ·rcases k with k | ⟨k1, k2⟩
   ·exact .inl (kD h k)
   ·rw [k1] at h; exact .inl h
  ·rcases k with k | ⟨k1, k2⟩
   ·rw [← h1] at k; exact .inl k
   ·exact .inr ⟨h1.trans k1, by omega⟩
 eq a b d h k := by
  rw [vP] at k
  rw [wu] at *
  rw [k.1, k.2] at h
  exact h
section
variable {α : Type} {c : α → α → Int} {z x : α}
def wk (c : α → α → Int) (x : α) : List α → List α
 | [] => [x]
 | o :: l => if c o x < 0 then o :: wk c x l else if c o x = 0 then x :: l else x :: o :: l
def refL (c : α → α → Int) (x : α) : Bool → List α → List α
 | put, [] => if put then [] else [x]
 | put, o :: l => (if put = false ∧ ¬ c o x < 0 then [x] else []) ++ ((if c o x = 0 then [] else [o]) ++ refL c x (put || !decide (c o x < 0)) l)
theorem uO (hk : OrdK c) : ∀ {l : List α}, ordB c z l = true → l.Pairwise fun a b => c a b < 0
 | [], _ => .nil
 | [a], _ => by simp
 | a :: b :: l, h => by
  have h1 : c a b < 0 := by
   simp only [ordB, List.all_eq_true, List.mem_range, decide_eq_true_eq] at h
   have := h 0 (by simp)
   simpa using this
  have h2 : ordB c z (b :: l) = true := by
   simp only [ordB, List.all_eq_true, List.mem_range, decide_eq_true_eq] at h ⊢
   intro i hi
   have := h (i + 1) (by simp at hi ⊢; omega)
   simpa using this
  have ih := uO hk h2
  refine List.pairwise_cons.2 ⟨fun y hy => ?_, ih⟩
  rcases List.mem_cons.1 hy with rfl | hy
  ·exact h1
  ·exact hk.lt _ _ _ h1 (List.rel_of_pairwise_cons ih hy)
theorem Jc : ∀ {l : List α}, (∀ y ∈ l, c y x ≠ 0) → refL c x true l = l
 | [], _ => rfl
 | o :: l, h => by
  simp only [refL]
  rw [if_neg (by simp), if_neg (h o (by simp)), Bool.true_or, Jc fun y hy => h y (by simp [hy])]
  rfl
theorem ZH (hk : OrdK c) : ∀ {l : List α}, l.Pairwise (fun a b => c a b < 0) → refL c x false l = wk c x l
 | [], _ => rfl
 | o :: l, h => by
  have hr := fun y hy => List.rel_of_pairwise_cons h (a := o) (a' := y) hy
  have ih := ZH hk (List.pairwise_cons.1 h).2
  simp only [refL, wk, Bool.false_or]
  by_cases h1 : c o x < 0
  ·rw [if_neg (by simp [h1]), if_neg (by omega), if_pos h1, decide_eq_true h1, Bool.not_true, ih]; rfl
  ·have hne : ∀ y ∈ l, c y x ≠ 0 := fun y hy h0 => h1 (hk.eq _ _ _ (hr y hy) h0)
   rw [if_pos ⟨trivial, h1⟩, decide_eq_false h1, Bool.not_false, Jc hne, if_neg h1]
   by_cases h2 : c o x = 0
   ·rw [if_pos h2, if_pos h2]; rfl
   ·rw [if_neg h2, if_neg h2]; rfl
end
theorem zbb {α : Type} {p : α → Bool} {z : α} {l : List α} (h : ∀ j, j < l.length → p (l.getD j z) = true) : l.all p = true := by
 rw [List.all_eq_true]
 intro x hx
 obtain ⟨j, hj, rfl⟩ := List.getElem_of_mem hx
 have := h j hj
 simpa [List.getD, hj] using this
theorem XD {α : Type} {p : α → Bool} {z : α} {l : List α} {j : Nat} (hj : j < l.length) (h : p (l.getD j z) = false) : l.all p = false := by
 rw [List.all_eq_false]
 exact ⟨l[j], List.getElem_mem hj, by simpa [List.getD, hj] using h⟩
theorem zam {f : List Fx} {c : List Ch} (hb : ¬ (1000 < f.length ∨ 1000 < c.length)) (h : (f.all okF && c.all okC && ordB cmpF Fx.nil f && ordB cmpC Ch.nil c) = false) : errE f c = 8 := by
 unfold errE
 rw [if_neg hb, if_neg (by rw [h]; simp)]
theorem j3 {f : List Fx} {c : List Ch} : errE f c = 0 ↔ ¬ (1000 < f.length ∨ 1000 < c.length) ∧ f.all okF = true ∧ c.all okC = true ∧ ordB cmpF Fx.nil f = true ∧ ordB cmpC Ch.nil c = true := by
 unfold errE
 by_cases hb : 1000 < f.length ∨ 1000 < c.length
 ·rw [if_pos hb]; simp [hb]
 ·rw [if_neg hb]
  by_cases h : (f.all okF && c.all okC && ordB cmpF Fx.nil f && ordB cmpC Ch.nil c) = true
  ·rw [if_pos h]
   simp only [Bool.and_eq_true] at h
   exact ⟨fun _ => ⟨hb, h.1.1.1, h.1.1.2, h.1.2, h.2⟩, fun _ => rfl⟩
  ·rw [if_neg h]
   refine ⟨fun h2 => by omega, fun h2 => absurd ?_ h⟩
   simp [h2.2.1, h2.2.2.1, h2.2.2.2.1, h2.2.2.2.2]
def ze0 (l : List Fx) (a : List UInt8) (d : Int) : List UInt8 × Bool := match l.find? fun x => decide (x.name = a) && decide (x.date = d) with
 | some x => (x.value, true)
 | none => ([], false)
def putF (f : List Fx) (c : List Ch) (x : Fx) : (List Fx × List Ch) × Int :=
 if errE f c ≠ 0 then (([], []), errE f c) else if (zD x.name && dayB x.date) = false then (([], []), 2) else if errR x.value ≠ 0 then (([], []), errR x.value)
 else if 1000 < (wk cmpF x f).length then (([], []), 22) else ((wk cmpF x f, c), 0)
end Go.Nov
end

/- Rationals: what they mean. -/
section
namespace Go.Nov
theorem zfl {b : List UInt8} (h : allD b) (hn : b ≠ []) (hz : b.getD 0 0 ≠ 48) : numD b ≠ 0 ∧ txt (numD b) = b := by
 have hd := UQ h
 have hl : 0 < b.length := List.length_pos_iff.2 hn
 have htl : Ten.tlen (dg b) = (dg b).length := by
  rcases Nat.lt_or_ge (Ten.tlen (dg b)) (dg b).length with h1 | h1
  ·exfalso
   have h2 := Ten.qH (dg b) ((dg b).length - 1) (by omega)
   rw [vY] at h2
   have e : (dg b).getD (b.length - 1) 0 = (b.getD 0 0).toNat - 48 := by
    simp only [dg, List.getD_eq_getElem?_getD]
    rw [List.getElem?_reverse (by simp; omega)]
    simp [List.getElem?_eq_getElem hl, show b.length - 1 - (b.length - 1) = 0 by omega]
   rw [e] at h2
   have h3 : 48 ≤ (b.getD 0 0).toNat := by
    cases b with
    | nil => exact absurd rfl hn
    | cons c r => exact (h c (by simp)).1
   apply hz
   apply UInt8.toNat_inj.1
   show _ = 48
   omega
  ·exact Nat.le_antisymm (Ten.zP _) h1
 have hc : dec (numD b) = dg b := by
  rw [← Jv]
  exact Ten.QB hd htl
 have h0 : numD b ≠ 0 := by
  intro h0
  rw [h0] at hc
  have : dg b = [] := by rw [← hc]; exact Ten.zG
  have := congrArg List.length this
  rw [vY, List.length_nil] at this
  omega
 refine ⟨h0, ?_⟩
 rw [xT h0, hc, dg, ← List.map_reverse, List.reverse_reverse, List.map_map]
 conv => rhs; rw [← List.map_id b]
 refine List.map_congr_left fun c hcm => ?_
 obtain ⟨h1, h2⟩ := h c hcm
 apply UInt8.toNat_inj.1
 simp only [Function.comp, id]
 rw [uL (by omega)]
 omega
theorem Xq {s : List UInt8} (h : errI s = 0) : wr (negI s) (numI s) = (s, 0) := by
 obtain ⟨neg, b, h1, h2, h3, h4, h5, h6⟩ := uI h
 have e1 : negI s = neg := by simp [negI, h2]
 have e2 : numI s = numD b := by simp [numI, h2]
 rw [e1, e2]
 by_cases hz : b.getD 0 0 = 48
 ·have hb : b = [48] := by
   cases b with
   | nil => exact absurd rfl h5
   | cons c r =>
    cases r with
    | nil => have : c = 48 := hz; rw [this]
    | cons d r => rw [wE hz (by simp)] at h3; cases h3
  subst hb
  cases neg with
  | true => cases h3
  | false => rw [h1]; rfl
 ·obtain ⟨g1, g2⟩ := zfl h4 h5 hz
  unfold wr
  rw [if_neg g1, g2, if_neg, h1]
  have := xm g1
  rw [g2] at this
  omega
def zI (s : List UInt8) : Int := if negI s then -(numI s : Int) else numI s
theorem qK (s : List UInt8) : (zI s).natAbs = numI s := by unfold zI; split <;> simp
theorem kX {s : List UInt8} (h : errI s = 0) : negI s = decide (zI s < 0) := by
 unfold zI
 cases hn : negI s with
 | false => simp
 | true =>
  simp only [if_true]
  have : numI s ≠ 0 := by
   intro h0
   have := (wM h).2 h0
   rw [this] at hn
   cases hn
  exact (decide_eq_true (by omega)).symm
def wz (z : Int) : List UInt8 × Int := wr (decide (z < 0)) z.natAbs
theorem ye {s : List UInt8} (h : errI s = 0) : wz (zI s) = (s, 0) := by
 unfold wz
 rw [qK, ← kX h, Xq h]
theorem zgg {neg : Bool} {x : Nat} (h : (wr neg x).2 = 0) : zI (wr neg x).1 = if neg then -(x : Int) else x := by
 obtain ⟨h1, h2, h3⟩ := Zi h
 unfold zI
 rw [h2, h3]
 by_cases h0 : x = 0
 ·subst h0; simp
 ·cases neg <;> simp [h0]
theorem wX {z : Int} (h : (wz z).2 = 0) : zI (wz z).1 = z := by
 unfold wz at h ⊢
 rw [zgg h]
 by_cases hz : z < 0
 ·rw [decide_eq_true hz]; simp only [if_true]; omega
 ·rw [decide_eq_false hz]; simp only [Bool.false_eq_true, if_false]; omega
theorem xt {z : Int} (h : (wz z).2 = 0) : errI (wz z).1 = 0 := (Zi h).1
theorem Wu {neg : Bool} {x : Nat} : wr neg x = wz (if neg then -(x : Int) else x) := by
 unfold wz
 by_cases h0 : x = 0
 ·subst h0
  cases neg <;> rfl
 ·cases neg with
  | false => simp only [Bool.false_eq_true, if_false, Int.natAbs_natCast]; rw [decide_eq_false (by omega)]
  | true => simp only [if_true, Int.natAbs_neg, Int.natAbs_natCast]; rw [decide_eq_true (by omega)]
theorem zfz (m : Bool) (x : Nat) (n : Bool) (y : Nat) : (if (sumS m x n y).1 then -((sumS m x n y).2 : Int) else (sumS m x n y).2) = (if m then -(x : Int) else x) + (if n then -(y : Int) else y) := by
 unfold sumS
 by_cases h : m = n
 ·subst h
  rw [if_pos rfl]
  cases m <;> simp <;> omega
 ·rw [if_neg h]
  by_cases h2 : y ≤ x
  ·rw [if_pos h2]
   cases m <;> cases n <;> first | exact absurd rfl h | (simp; omega)
  ·rw [if_neg h2]
   cases m <;> cases n <;> first | exact absurd rfl h | (simp; omega)
theorem zg1 {s t : List UInt8} (h : zo s t = 0) : addI s t = wz (zI s + zI t) := by
 unfold addI
 rw [if_pos h, Wu, zfz]; rfl
theorem xK {s t : List UInt8} (h : zo s t = 0) : mulI s t = wz (zI s * zI t) := by
 unfold mulI
 rw [if_pos h, Wu]
 congr 1
 unfold zI
 cases negI s <;> cases negI t <;> simp [Int.neg_mul, Int.mul_neg]
theorem zfr (m : Bool) (x : Nat) (n : Bool) (y : Nat) (hm : m = true → x ≠ 0) (hn : n = true → y ≠ 0) : cmpZ m x n y = cmpI (if m then -(x : Int) else x) (if n then -(y : Int) else y) := by
 unfold cmpZ cmpI cmpN
 cases m <;> cases n
 ·simp only [Bool.false_eq_true, false_and, if_false]
  repeat' split
  all_goals first | rfl | omega
 ·have := hn rfl
  simp only [Bool.false_eq_true, false_and, if_false, true_and, and_self, if_true]
  repeat' split
  all_goals first | rfl | omega
 ·have := hm rfl
  simp only [and_self, if_true, Bool.false_eq_true, if_false]
  repeat' split
  all_goals first | rfl | omega
 ·simp only [Bool.true_eq_false, and_false, if_false, if_true]
  repeat' split
  all_goals first | rfl | omega
end Go.Nov
end

/- The reference's integers: what its sums and products of digits mean. -/
section
namespace Go.Nov
theorem zgd {l : List Nat} (h : ∀ p, p < l.length → l.getD p 0 < 10) : Ten.dig l := by
 intro d hd
 obtain ⟨i, hi, rfl⟩ := List.getElem_of_mem hd
 have := h i hi
 simpa [List.getD, hi] using this
theorem zbi {l : List Nat} {n : Nat} (hn : l.length = n + 1) (h : ∀ p, p < n → l.getD p 0 < 10) (hv : Ten.val l < 10 ^ (n + 1)) : Ten.dig l := by
 refine zgd fun p hp => ?_
 rcases Nat.lt_or_ge p n with h1 | h1
 ·exact h p h1
 ·have : p = n := by omega
  subst this
  have e := Ten.zi l p
  rw [List.take_of_length_le (by omega)] at e
  rw [Nat.pow_succ] at hv
  rcases Nat.lt_or_ge (l.getD p 0) 10 with h2 | h2
  ·exact h2
  ·have : 10 ^ p * 10 ≤ 10 ^ p * l.getD p 0 := Nat.mul_le_mul_left _ h2
   have hB : Ten.B = 10 := rfl
   rw [hB] at e
   omega
def Xv (p : List Nat × List Nat) (r : List Nat) : Prop := r.length = max p.1.length p.2.length + 1 ∧ Ten.dig r ∧ Ten.val r = Ten.val p.1 + Ten.val p.2
theorem zbj {l m o : List Nat} {c n : Nat} (hl : Ten.dig l) (hm : Ten.dig m) (hn : n = max l.length m.length + 1) (he : Ten.val o + 10 ^ n * c = Ten.val (l.take n) + Ten.val (m.take n)) : Ten.val o = Ten.val l + Ten.val m := by
 rw [List.take_of_length_le (by omega), List.take_of_length_le (by omega)] at he
 have h1 := Ten.zC hl
 have h2 := Ten.zC hm
 have hB : Ten.B = 10 := rfl
 rw [hB] at h1 h2
 have h3 : 10 ^ l.length ≤ 10 ^ (max l.length m.length) := Nat.pow_le_pow_right (by decide) (by omega)
 have h4 : 10 ^ m.length ≤ 10 ^ (max l.length m.length) := Nat.pow_le_pow_right (by decide) (by omega)
 have h5 : 10 ^ n = 10 ^ (max l.length m.length) * 10 := by rw [hn, Nat.pow_succ]
 rcases Nat.eq_zero_or_pos c with h | h
 ·rw [h] at he; omega
 ·have : 10 ^ n * 1 ≤ 10 ^ n * c := Nat.mul_le_mul_left _ h
  omega
theorem X6 {l m : List Nat} (hl : Ten.dig l) (hm : Ten.dig m) : ∃ r, Xv (l, m) r := by
 have h1 := Ten.zC hl
 have h2 := Ten.zC hm
 have hB : Ten.B = 10 := rfl
 rw [hB] at h1 h2
 have h3 : 10 ^ l.length ≤ 10 ^ (max l.length m.length) := Nat.pow_le_pow_right (by decide) (by omega)
 have h4 : 10 ^ m.length ≤ 10 ^ (max l.length m.length) := Nat.pow_le_pow_right (by decide) (by omega)
 have h5 : 10 ^ (max l.length m.length + 1) = 10 ^ (max l.length m.length) * 10 := Nat.pow_succ _ _
 exact ⟨decs (max l.length m.length + 1) (Ten.val l + Ten.val m), wa _ _, vD _ _, vC _ _ (by omega)⟩
theorem Ku {vo vl vm p a b c d c' : Nat} (h : vo + p * c = vl + vm) (hd : d + 10 * c' = a + b + c) : vo + p * d + p * 10 * c' = vl + p * a + (vm + p * b) := by
 have := congrArg (p * ·) hd
 simp only [Nat.mul_add] at this
 rw [Nat.mul_assoc]
 omega
def JD (p : List Nat × List Nat) (r : List Nat) : Prop := r.length = p.1.length + p.2.length ∧ Ten.dig r ∧ Ten.val r = Ten.val p.1 * Ten.val p.2
theorem XN {l m : List Nat} (hl : Ten.dig l) (hm : Ten.dig m) : Ten.val l * Ten.val m < 10 ^ (l.length + m.length) := by
 have h1 := Ten.zC hl
 have h2 := Ten.zC hm
 have hB : Ten.B = 10 := rfl
 rw [hB] at h1 h2
 rw [Nat.pow_add]
 exact Nat.mul_lt_mul_of_lt_of_lt h1 h2
theorem zaw {l m : List Nat} (hl : Ten.dig l) (hm : Ten.dig m) : ∃ r, JD (l, m) r :=
 ⟨decs (l.length + m.length) (Ten.val l * Ten.val m), wa _ _, vD _ _, vC _ _ (XN hl hm)⟩
theorem za3 {o : List Nat} {i j V a vt b : Nat} (hp : i + j < o.length) (h : Ten.val o = V + 10 ^ i * (a * vt)) : Ten.val (o.set (i + j) (o.getD (i + j) 0 + a * b)) = V + 10 ^ i * (a * (vt + 10 ^ j * b)) := by
 have hs := Ten.vu o (i + j) (o.getD (i + j) 0 + a * b) hp
 have hB : Ten.B = 10 := rfl
 rw [hB, Nat.mul_add, Nat.pow_add] at hs
 have e : 10 ^ i * (a * (vt + 10 ^ j * b)) = 10 ^ i * (a * vt) + 10 ^ i * 10 ^ j * (a * b) := by
  rw [Nat.mul_add, Nat.mul_add]
  congr 1
  rw [Nat.mul_assoc, Nat.mul_left_comm a]
 rw [e]
 omega
theorem Kj {o : List Nat} {i : Nat} (hi : i + 1 < o.length) : Ten.val ((o.set (i + 1) (o.getD (i + 1) 0 + o.getD i 0 / 10)).set i (o.getD i 0 % 10)) = Ten.val o := by
 have h1 := Ten.vu o (i + 1) (o.getD (i + 1) 0 + o.getD i 0 / 10) hi
 have h2 := Ten.vu (o.set (i + 1) (o.getD (i + 1) 0 + o.getD i 0 / 10)) i (o.getD i 0 % 10) (by simp; omega)
 have e : (o.set (i + 1) (o.getD (i + 1) 0 + o.getD i 0 / 10)).getD i 0 = o.getD i 0 := by
  simp only [List.getD]
  rw [List.getElem?_set_ne (by omega)]
 have hB : Ten.B = 10 := rfl
 rw [e, hB] at h2
 rw [hB, Nat.mul_add, Nat.pow_succ] at h1
 have hdm := Nat.div_add_mod (o.getD i 0) 10
 have : 10 ^ i * o.getD i 0 = 10 ^ i * 10 * (o.getD i 0 / 10) + 10 ^ i * (o.getD i 0 % 10) := by
  rw [Nat.mul_assoc, ← Nat.mul_add, hdm]
 omega
theorem jX {o : List Nat} {i p x : Nat} (hi : i < o.length) : (o.set i x).getD p 0 = if p = i then x else o.getD p 0 := by
 simp only [List.getD]
 by_cases h : p = i
 ·subst h; simp [hi]
 ·rw [List.getElem?_set_ne (by omega), if_neg h]
end Go.Nov
end

/- Cutting a piece of code at a place that is not a loop's head. -/
section
namespace Go.Sx
variable [Stat]
section
variable {O : Nat → Prop} {pin : Nat} {w0 : World} {σ0 : List SE} {P : Program} {fn : Func}
def fstC : Code → Code
 | .seq a _ => a
 | c => c
def sndC : Code → Code
 | .seq _ b => b
 | c => c
def blkC : Code → Code
 | .block _ c => c
 | c => c
def blkI : Code → Nat
 | .block i _ => i
 | _ => 0
theorem zb.cut {M : Option Nat} {ι : Type} {Hs : Nat → KV → Heap → Prop} {R : List AV → Heap → Prop} {k : List Item} {c : Code} {st : St} (S : ι → KV) (H : ι → Heap) (dk : Nat)
  (h1 : zO M P fn O pin w0 σ0 (fun d kv h => if d = dk then ∃ x, LeK pin fn.ntmps kv h (S x) (H x) else Hs d kv h) R (.code c :: .inLoop :: k) st) (hd : jQ k = dk)
  (h2 : ∀ x, zO M P fn O pin w0 σ0 Hs R k (mk fn.ntmps (S x) (H x))) : zO M P fn O pin w0 σ0 Hs R (.code c :: k) st := by
 subst hd
 intro w σ a hm
 have := h1 w σ a hm
 simp only [wpK] at this ⊢
 refine wpIn_mono this fun e a' w' he => ?_
 cases e with
 | normal =>
  simp only [wpK] at he
  obtain ⟨st', σ', ⟨kv, h, hh, rfl⟩, hm'⟩ := he
  rw [if_pos trivial] at hh
  obtain ⟨x, hle⟩ := hh
  exact h2 x w' _ a' (hle.le.mod hm')
 | _ =>
  simp only [wpK] at he
  refine qT (fun d a w hd hh => ?_) he
  obtain ⟨st', σ', ⟨kv, h, hh, rfl⟩, hm'⟩ := hh
  rw [if_neg (by omega)] at hh
  exact ⟨_, σ', ⟨kv, h, hh, rfl⟩, hm'⟩
theorem zb.seq {M : Option Nat} {Hs : Nat → KV → Heap → Prop} {R : List AV → Heap → Prop} {k : List Item} {c : Code} {st : St} (hc : c = .seq (fstC c) (sndC c))
  (h : zO M P fn O pin w0 σ0 Hs R (.code (fstC c) :: .code (sndC c) :: k) st) : zO M P fn O pin w0 σ0 Hs R (.code c :: k) st := by
 rw [hc]
 generalize fstC c = a at h
 generalize sndC c = b at h
 intro w σ act hm
 have := h w σ act hm
 simp only [wpK] at this ⊢
 refine wpIn_seq (wpIn_mono this fun e a w h => ?_)
 cases e <;> exact h
theorem zb.block {M : Option Nat} {Hs : Nat → KV → Heap → Prop} {R : List AV → Heap → Prop} {k : List Item} {c : Code} {st : St} (hc : c = .block (blkI c) (blkC c))
  (h : zO M P fn O pin w0 σ0 Hs R (.code (blkC c) :: .inBlock (blkI c) :: k) st) : zO M P fn O pin w0 σ0 Hs R (.code c :: k) st := by
 rw [hc]
 generalize blkC c = a at h
 generalize blkI c = i at h
 intro w σ act hm
 have := h w σ act hm
 simp only [wpK] at this ⊢
 refine wpIn_block (wpIn_mono this fun e a w h => ?_)
 cases e <;> exact h
end
end Go.Sx
end

/- The reference's integers: sums and products of digits. -/
section
set_option maxRecDepth 100000
open Go Go.Sx Go.Proofs Go.Nov
namespace Go.Proofs.Tryz
attribute [local simp] eqKV eqA eqA0 eqH eqB eqL eqL0
noncomputable def K93 : List Go.Sx.Item := [.code (Tryz.f93.body.getD .skip)]
noncomputable def K91 : List Go.Sx.Item := [.code (Tryz.f91.body.getD .skip)]
def Ut : Ctr := ctrP true (fun p : List Nat × List Nat => [nat6 p.1, nat6 p.2]) (fun p => Ten.dig p.1 ∧ Ten.dig p.2 ∧ p.1.length < 2 ^ 30 ∧ p.2.length < 2 ^ 30) Xv (fun _ r => (nat6 r, []))
def SPp (l m o : List Nat) (c i : Nat) : KV := [(0, nat6 l), (1, nat6 m), (5, .osl 0 1 0 o.length), (6, .int .i64 (c : Int)), (7, .int .i64 (i : Int))]
noncomputable def GPp : Nat → Option Ctr := fun f => if f = 108 then some (atC) else none
theorem Uv : ∀ g c, GPp g = some c → zd Tryz.prog g c := okIf ze3 (zp)
theorem zb4 : zd Tryz.prog 93 Ut := by
 refine ze (fn := Tryz.f93) (c := Tryz.f93.body.getD .skip) rfl rfl rfl fun p hp O w0 Q hq => ?_
 obtain ⟨l, m⟩ := p
 obtain ⟨hl, hm, hll, hml⟩ := hp
 simp only at hq hl hm hll hml
 refine zb.run hmix Uv [0, 1, 5, 6, 7] 400 (T := .leaf (.loop (Prod.fst (lps K93 0)) (Prod.snd (lps K93 0)) [(0, .sl l.length 1 (natG .i64 l)), (1, .sl m.length 1 (natG .i64 m)), (5, .nils), (6, .int .i64 0), (7, .int .i64 0)] [])) (by kernel_rfl) ?_
 simp only [Tree.holds, zc, inR, lo, hi, Int.toNat_natCast]
 refine zb.bear 5 1 (natG .i64 []) rfl (by decide) (by kernel_rfl) ?_
 refine zb.loop (ι := {z : List Nat × Nat × Nat // z.1.length = z.2.2 ∧ z.2.2 ≤ max l.length m.length + 1 ∧ Ten.dig z.1 ∧ z.2.1 ≤ 1 ∧ Ten.val z.1 + 10 ^ z.2.2 * z.2.1 = Ten.val (l.take z.2.2) + Ten.val (m.take z.2.2)}) (fun z => SPp l m z.1.1 z.1.2.1 z.1.2.2) (fun z => [.arr z.1.1.length 1 (natG .i64 z.1.1)]) (fun z => max l.length m.length + 1 - z.1.2.2) ⟨([], 0, 0), rfl, Nat.zero_le _, by simp [Ten.dig], Nat.zero_le _, by simp [Ten.val]⟩ 0 ?_ ?_ (by kernel_rfl)
 ·refine ⟨by simp [SPp, natS, za, kq], by simp [za], by kernel_rfl, Nat.zero_le _⟩
 ·rintro ⟨⟨o, b, i⟩, hol, hil, hod, hb, hv⟩
  refine zb.run hmix Uv [0, 1, 5, 6, 7] 400 (T := .ite (decide ((↑i : Int) ≤ max (↑l.length : Int) (↑m.length : Int))) (.ex (fun (x : List Nat × Nat) => eqL [AV.sl l.length 1 (natG .i64 l), AV.int .i64 i] [AV.sl x.1.length 1 (natG .i64 x.1), AV.int .i64 x.2] ∧ True) fun n => .all (fun (r : Nat) => r = List.getD n.1 n.2 0) fun n => .ex (fun (x : List Nat × Nat) => eqL [AV.sl m.length 1 (natG .i64 m), AV.int .i64 i] [AV.sl x.1.length 1 (natG .i64 x.1), AV.int .i64 x.2] ∧ True) fun n_1 => .all (fun (r : Nat) => r = List.getD n_1.1 n_1.2 0) fun n_2 => .side (inR .i64 ((↑n : Int) + n_2)) (.side (inR .i64 ((↑n : Int) + n_2 + (↑b : Int))) (.side ((10 : Int) ≠ 0) (.side (0 = 0 ∧ o.length ≤ o.length ∧ (o.length + 1) * 8 ≤ 140737488355328) (.side ((10 : Int) ≠ 0 ∧ inR .i64 (Int.tdiv ((↑n : Int) + n_2 + (↑b : Int)) (10 : Int))) (.side (inR .i64 ((↑i : Int) + (1 : Int))) (.leaf (.back 0 [(0, .sl l.length 1 (natG .i64 l)), (1, .sl m.length 1 (natG .i64 m)), (5, .osl 0 1 0 (o.length + 1)), (6, .int .i64 (Int.tdiv ((↑n : Int) + n_2 + (↑b : Int)) (10 : Int))), (7, .int .i64 ((↑i : Int) + (1 : Int)))] [.arr (o.length + 1) 1 (appG o.length (natG .i64 o) (zg (zf 1 [.int .i64 (Int.tmod ((↑n : Int) + n_2 + (↑b : Int)) (10 : Int))]) 0)), .arr 1 1 (zf 1 [.int .i64 (Int.tmod ((↑n : Int) + n_2 + (↑b : Int)) (10 : Int))])])))))))) (.leaf (.ret [.osl 0 1 0 o.length] [.arr o.length 1 (natG .i64 o)]))) (by kernel_rfl) ?_
  simp only [Tree.holds, zc, inR, lo, hi, Int.toNat_natCast]
  simp only at hol hil hod hb hv
  refine ⟨fun hlt => ?_, fun hge => ?_⟩
  ·have hlt : i ≤ max l.length m.length := by have := of_decide_eq_true hlt; omega
   refine ⟨(l, i), ⟨by simp [za], trivial⟩, ⟨_, rfl⟩, ?_⟩
   rintro _ rfl
   refine ⟨(m, i), ⟨by simp [za], trivial⟩, ⟨_, rfl⟩, ?_⟩
   rintro _ rfl
   simp only
   have h1 : l.getD i 0 < 10 := Ten.zz hl i
   have h2 : m.getD i 0 < 10 := Ten.zz hm i
   have step : ∀ d b', d + 10 * b' = l.getD i 0 + m.getD i 0 + b → Ten.val (o ++ [d]) + 10 ^ (i + 1) * b' = Ten.val (l.take (i + 1)) + Ten.val (m.take (i + 1)) := by
    intro d b' h
    rw [Ten.zy, Ten.zi, Ten.zi, hol, Nat.pow_succ]
    have := Ku hv h
    simpa [Ten.val] using this
   obtain ⟨x, hx⟩ : ∃ x, l.getD i 0 = x := ⟨_, rfl⟩
   obtain ⟨y, hy⟩ : ∃ y, m.getD i 0 = y := ⟨_, rfl⟩
   simp only [hx, hy] at h1 h2 step ⊢
   obtain ⟨v, hvv⟩ : ∃ v, x + y + b = v := ⟨_, rfl⟩
   have ev : (x : Int) + (y : Int) + (b : Int) = (v : Int) := by clear step; omega
   have ed : ((v : Int)).tdiv 10 = ((v / 10 : Nat) : Int) := rfl
   have em : ((v : Int)).tmod 10 = ((v % 10 : Nat) : Int) := rfl
   have hv2 : v / 10 ≤ 1 ∧ v % 10 < 10 ∧ v % 10 + 10 * (v / 10) = v := ⟨by clear step; omega, Nat.mod_lt _ (by decide), Nat.mod_add_div _ _⟩
   obtain ⟨g1, g2, g3⟩ := hv2
   rw [ev, ed, em]
   have hstep := step (v % 10) (v / 10) (by rw [g3, hvv])
   clear step
   generalize v / 10 = q at *
   generalize v % 10 = r at *
   refine ⟨by omega, fun _ => ⟨by omega, fun _ => ⟨by decide, fun _ => ⟨⟨trivial, Nat.le_refl _, by omega⟩, fun _ => ⟨⟨by decide, by omega, by omega⟩, fun _ => ⟨by omega, fun _ => ?_⟩⟩⟩⟩⟩⟩
   rw [if_pos trivial]
   refine ⟨⟨(o ++ [r], q, i + 1), by simp [hol], by simp only; omega, Ten.zS.2 ⟨hod, by simp only [Ten.dig, List.mem_singleton]; rintro _ rfl; exact g2⟩, g1, hstep⟩, by show max l.length m.length + 1 - (i + 1) < _; omega, by simp [SPp, natS, za], qw rfl, by kernel_rfl, Nat.zero_le _⟩
  ·have hge : i = max l.length m.length + 1 := by have := of_decide_eq_false hge; omega
   exact RetR.nats (hq o ⟨by rw [hol, hge], hod, zbj hl hm hge hv⟩) rfl
def Jr : Ctr := ctrP true (fun p : List Nat × List Nat => [nat6 p.1, nat6 p.2]) (fun p => Ten.dig p.1 ∧ Ten.dig p.2 ∧ 0 < p.1.length ∧ 0 < p.2.length ∧ p.1.length < 2 ^ 30 ∧ p.2.length < 2 ^ 30) JD (fun _ r => (nat6 r, []))
def STm (l m o : List Nat) (i : Nat) : KV := [(0, nat6 l), (1, nat6 m), (5, .osl 0 1 0 o.length), (6, .int .i64 (i : Int)), (7, .undef), (8, .undef)]
def STm2 (l m o : List Nat) (i j : Nat) : KV := [(0, nat6 l), (1, nat6 m), (5, .osl 0 1 0 o.length), (6, .int .i64 (i : Int)), (7, .int .i64 (j : Int)), (8, .undef)]
def STm3 (o : List Nat) (i : Nat) : KV := [(0, .undef), (1, .undef), (5, .osl 0 1 0 o.length), (6, .undef), (7, .undef), (8, .int .i64 (i : Int))]
theorem Q2 {o : List Nat} {i : Nat} {v : Int} {x : Nat} (hv : v = x) (hi : i < o.length) : eqG o.length 1 (updG (natG .i64 o) i 0 [.int .i64 v]) (natG .i64 (o.set i x)) := by
 have := jL (k := .i64) (l := o) (v := v) (by omega) hi
 subst hv
 simpa using this
theorem Wi {O : Nat → Prop} {w0 : World} {Q : AV × Heap → Prop} {Hs : Nat → KV → Heap → Prop} (l m o0 : List Nat) (hl : Ten.dig l) (hm : Ten.dig m) (hll : 0 < l.length) (hml : 0 < m.length) (hl2 : l.length < 2 ^ 30) (hm2 : m.length < 2 ^ 30) (hlen : o0.length = l.length + m.length) (hv : Ten.val o0 = Ten.val l * Ten.val m) (hb : ∀ p, o0.getD p 0 ≤ 81 * 2 ^ 30)
  (hq : ∀ r, JD (l, m) r → Q (nat6 r, [])) (kv : KV) (h : Heap) (hle : LeK 0 Tryz.f91.ntmps kv h (STm3 o0 0) [.arr o0.length 1 (natG .i64 o0)]) :
  zb Tryz.prog Tryz.f91 O 0 w0 [] Hs (RetR Jr 0 Q) (.code (.loop (lps (inside K91 0) 1).1) :: (lps (inside K91 0) 1).2) (mk Tryz.f91.ntmps kv h) := by
 refine zb.loop (ι := {z : List Nat × Nat // z.1.length = l.length + m.length ∧ z.2 < l.length + m.length ∧ Ten.val z.1 = Ten.val l * Ten.val m ∧ (∀ p, p < z.2 → z.1.getD p 0 < 10) ∧ (∀ p, z.2 < p → z.1.getD p 0 ≤ 81 * 2 ^ 30) ∧ z.1.getD z.2 0 ≤ 2 * (81 * 2 ^ 30)}) (fun z => STm3 z.1.1 z.1.2) (fun z => [.arr z.1.1.length 1 (natG .i64 z.1.1)]) (fun z => l.length + m.length - z.1.2) ⟨(o0, 0), hlen, by simp only; omega, hv, fun p hp => by simp at hp, fun p _ => hb p, by have := hb 0; simp only; omega⟩ 0 hle ?_ (by kernel_rfl)
 rintro ⟨⟨o, i⟩, hol, hil, hov, h10, hM, h2M⟩
 simp only at hol hil hov h10 hM h2M
 by_cases hlt : i + 1 < o.length
 ·refine zb.seq (by kernel_rfl) (zb.cut (ι := Unit) (fun _ => STm3 o i) (fun _ => [.arr o.length 1 (natG .i64 o)]) 1 ?_ (by kernel_rfl) fun _ => ?_)
  ·refine zb.run hmix zq [0, 1, 5, 6, 7, 8] 400 (T := .side (inR .i64 ((↑i : Int) + (1 : Int))) (.ite (decide ((↑i : Int) + (1 : Int) < o.length)) (.leaf (.back 1 [(0, .undef), (1, .undef), (5, .osl 0 1 0 o.length), (6, .undef), (7, .undef), (8, .int .i64 i)] [.arr o.length 1 (natG .i64 o)])) (.leaf (.ret [.osl 0 1 0 o.length] [.arr o.length 1 (natG .i64 o)])))) (by kernel_rfl) ?_
   simp only [Tree.holds, zc, inR, lo, hi, Int.toNat_natCast]
   refine ⟨by omega, fun _ => ⟨fun _ => ?_, fun hno => absurd (of_decide_eq_false hno) (by omega)⟩⟩
   rw [if_pos trivial]
   exact ⟨(), by simp [STm3], by simp [za], by kernel_rfl, Nat.zero_le _⟩
  have hx : o.getD i 0 / 10 ≤ o.getD i 0 := Nat.div_le_self _ _
  have hnext := hM (i + 1) (by omega)
  have c1 : ((i : Int) + 1) = ((i + 1 : Nat) : Int) := by omega
  have hl1 : (o.set (i + 1) (o.getD (i + 1) 0 + o.getD i 0 / 10)).length = o.length := by simp
  refine zb.seq (by kernel_rfl) (zb.block (by kernel_rfl) (zb.seq (by kernel_rfl) (zb.cut (ι := Unit) (fun _ => STm3 (o.set (i + 1) (o.getD (i + 1) 0 + o.getD i 0 / 10)) i) (fun _ => [.arr (o.set (i + 1) (o.getD (i + 1) 0 + o.getD i 0 / 10)).length 1 (natG .i64 (o.set (i + 1) (o.getD (i + 1) 0 + o.getD i 0 / 10)))]) 1 ?_ (by kernel_rfl) fun _ => ?_)))
  ·refine zb.run hmix zq [0, 1, 5, 6, 7, 8] 400 (T := .side (inR .i64 ((↑i : Int) + (1 : Int))) (.side (inR .i64 ((↑i : Int) + (1 : Int))) (.side ((0 : Int) ≤ i + (1 : Int) ∧ (↑i : Int) + (1 : Int) < o.length) (.side ((0 : Int) ≤ i ∧ (↑i : Int) < o.length) (.side ((10 : Int) ≠ 0 ∧ inR .i64 (Int.tdiv (↑(List.getD o (0 + Int.toNat (↑i : Int)) 0) : Int) (10 : Int))) (.side (inR .i64 ((↑(List.getD o (0 + Int.toNat ((↑i : Int) + (1 : Int))) 0) : Int) + Int.tdiv (↑(List.getD o (0 + Int.toNat (↑i : Int)) 0) : Int) (10 : Int))) (.side ((0 : Int) ≤ i + (1 : Int) ∧ (↑i : Int) + (1 : Int) < o.length) (.leaf (.back 1 [(0, .undef), (1, .undef), (5, .osl 0 1 0 o.length), (6, .undef), (7, .undef), (8, .int .i64 i)] [.arr o.length 1 (updG (natG .i64 o) (0 + Int.toNat ((↑i : Int) + (1 : Int))) 0 [.int .i64 ((↑(List.getD o (0 + Int.toNat ((↑i : Int) + (1 : Int))) 0) : Int) + Int.tdiv (↑(List.getD o (0 + Int.toNat (↑i : Int)) 0) : Int) (10 : Int))])]))))))))) (by kernel_rfl) ?_
   simp only [Tree.holds, zc, inR, lo, hi, c1, Int.toNat_natCast, Nat.zero_add]
   have ed : ((o.getD i 0 : Nat) : Int).tdiv 10 = ((o.getD i 0 / 10 : Nat) : Int) := rfl
   rw [ed]
   generalize ho1 : o.getD (i + 1) 0 = x1 at *
   generalize ho0 : o.getD i 0 / 10 = x0 at *
   iterate 7 refine ⟨by omega, fun _ => ?_⟩
   rw [if_pos trivial]
   refine ⟨(), by simp [STm3], ⟨⟨by simp, rfl, Q2 (by omega) hlt⟩, trivial⟩, by kernel_rfl, Nat.zero_le _⟩
  obtain ⟨o1, ho1⟩ : ∃ o1, o.set (i + 1) (o.getD (i + 1) 0 + o.getD i 0 / 10) = o1 := ⟨_, rfl⟩
  have hcar := Kj hlt
  have g0 : o1.getD i 0 = o.getD i 0 := by rw [← ho1, jX hlt, if_neg (by omega)]
  have g1 : o1.getD (i + 1) 0 = o.getD (i + 1) 0 + o.getD i 0 / 10 := by rw [← ho1, jX hlt, if_pos rfl]
  have gn : ∀ p, p ≠ i + 1 → o1.getD p 0 = o.getD p 0 := fun p hp => by rw [← ho1, jX hlt, if_neg hp]
  have hl2' : o1.length = o.length := by rw [← ho1]; simp
  rw [ho1] at hcar ⊢
  rw [← g0] at hcar
  refine zb.run hmix zq [0, 1, 5, 6, 7, 8] 400 (T := .side ((0 : Int) ≤ i ∧ (↑i : Int) < o1.length) (.side ((10 : Int) ≠ 0) (.side ((0 : Int) ≤ i ∧ (↑i : Int) < o1.length) (.side (inR .i64 ((↑i : Int) + (1 : Int))) (.leaf (.back 0 [(0, .undef), (1, .undef), (5, .osl 0 1 0 o1.length), (6, .undef), (7, .undef), (8, .int .i64 ((↑i : Int) + (1 : Int)))] [.arr o1.length 1 (updG (natG .i64 o1) (0 + Int.toNat (↑i : Int)) 0 [.int .i64 (Int.tmod (↑(List.getD o1 (0 + Int.toNat (↑i : Int)) 0) : Int) (10 : Int))])])))))) (by kernel_rfl) ?_
  simp only [Tree.holds, zc, inR, lo, hi, c1, Int.toNat_natCast, Nat.zero_add]
  have em : ((o1.getD i 0 : Nat) : Int).tmod 10 = ((o1.getD i 0 % 10 : Nat) : Int) := rfl
  rw [em]
  have hm10 : o1.getD i 0 % 10 < 10 := Nat.mod_lt _ (by decide)
  iterate 4 refine ⟨by first | omega | decide, fun _ => ?_⟩
  rw [if_pos trivial]
  refine ⟨⟨(o1.set i (o1.getD i 0 % 10), i + 1), by simp [hl2', hol], by omega, by rw [hcar]; exact hov, fun p hp => ?_, fun p hp => ?_, ?_⟩, by show _ - (i + 1) < _ - i; omega, by simp [STm3], ⟨⟨by simp, rfl, Q2 rfl (by omega)⟩, trivial⟩, by kernel_rfl, Nat.zero_le _⟩
  ·show (o1.set i _).getD p 0 < 10
   rw [jX (by omega)]
   split
   ·exact hm10
   ·rw [gn p (by have : p < i + 1 := hp; omega)]; exact h10 p (by have : p < i + 1 := hp; omega)
  ·have hp : i + 1 < p := hp
   show (o1.set i _).getD p 0 ≤ _
   rw [jX (by omega), if_neg (by omega), gn p (by omega)]
   exact hM p (by omega)
  ·show (o1.set i _).getD (i + 1) 0 ≤ _
   rw [jX (by omega), if_neg (by omega), g1]
   have : o.getD i 0 / 10 ≤ 2 * (81 * 2 ^ 30) / 10 := Nat.div_le_div_right h2M
   omega
 ·refine zb.seq (by kernel_rfl) (zb.cut (ι := {x : Unit // False}) (fun _ => []) (fun _ => []) 1 ?_ (by kernel_rfl) fun x => x.2.elim)
  ·refine zb.run hmix zq [0, 1, 5, 6, 7, 8] 400 (T := .side (inR .i64 ((↑i : Int) + (1 : Int))) (.ite (decide ((↑i : Int) + (1 : Int) < o.length)) (.leaf (.back 1 [(0, .undef), (1, .undef), (5, .osl 0 1 0 o.length), (6, .undef), (7, .undef), (8, .int .i64 i)] [.arr o.length 1 (natG .i64 o)])) (.leaf (.ret [.osl 0 1 0 o.length] [.arr o.length 1 (natG .i64 o)])))) (by kernel_rfl) ?_
   simp only [Tree.holds, zc, inR, lo, hi, Int.toNat_natCast]
   refine ⟨by omega, fun _ => ⟨fun hno => absurd (of_decide_eq_true hno) (by omega), fun _ => ?_⟩⟩
   refine RetR.nats (hq o ⟨hol, zbi (n := i) (by omega) h10 ?_, hov⟩) rfl
   rw [hov]
   have := XN hl hm
   rw [show i + 1 = l.length + m.length by omega]
   exact this
theorem Y4 {o : List Nat} {v : Int} {i d i' : Nat} (hv : v = d) (hi : i < o.length) (hi' : i' = i) : eqH [.arr o.length 1 (updG (natG .i64 o) i' 0 [.int .i64 v])] [.arr (o.set i d).length 1 (natG .i64 (o.set i d))] := heap_set hv hi hi'
theorem YE : zd Tryz.prog 91 Jr := by
 refine ze (fn := Tryz.f91) (c := Tryz.f91.body.getD .skip) rfl rfl rfl fun p hp O w0 Q hq => ?_
 obtain ⟨l, m⟩ := p
 obtain ⟨hl, hm, hll, hml, hl2, hm2⟩ := hp
 simp only at hq hl hm hll hml hl2 hm2
 refine zb.run hmix zq [0, 1, 5, 6, 7, 8] 400 (T := .side (inR .i64 ((↑l.length : Int) + m.length)) (.side ((0 : Int) ≤ l.length + (↑m.length : Int) ∧ (↑l.length : Int) + m.length ≤ (↑l.length : Int) + m.length ∧ inR .i64 ((↑l.length : Int) + m.length) ∧ Int.toNat ((↑l.length : Int) + m.length) * 8 ≤ 140737488355328) (.leaf (.loop (Prod.fst (lps K91 0)) (Prod.snd (lps K91 0)) [(0, .sl l.length 1 (natG .i64 l)), (1, .sl m.length 1 (natG .i64 m)), (5, .osl 0 1 0 (Int.toNat ((↑l.length : Int) + m.length))), (6, .int .i64 0), (7, .undef), (8, .undef)] [.arr (Int.toNat ((↑l.length : Int) + m.length)) 1 (vq [.int .i64 0])])))) (by kernel_rfl) ?_
 have es : ((l.length : Int) + (m.length : Int)) = ((l.length + m.length : Nat) : Int) := by omega
 simp only [Tree.holds, zc, inR, lo, hi, es, Int.toNat_natCast]
 refine ⟨by omega, fun _ => ⟨by omega, fun _ => ?_⟩⟩
 have hrep : ∀ p, (List.replicate (l.length + m.length) 0).getD p 0 = 0 := fun p => by
  simp only [List.getD, List.getElem?_replicate]
  split <;> rfl
 refine zb.loop (ι := {z : List Nat × Nat // z.1.length = l.length + m.length ∧ z.2 ≤ l.length ∧ Ten.val z.1 = Ten.val (l.take z.2) * Ten.val m ∧ ∀ p, z.1.getD p 0 ≤ 81 * z.2}) (fun z => STm l m z.1.1 z.1.2) (fun z => [.arr z.1.1.length 1 (natG .i64 z.1.1)]) (fun z => l.length - z.1.2) ⟨(List.replicate (l.length + m.length) 0, 0), by simp, Nat.zero_le _, by simp [Ten.qn, Ten.val], fun p => by simp only [hrep]; exact Nat.zero_le _⟩ 0 ?_ ?_ (by kernel_rfl)
 ·exact ⟨by simp [STm, natS, za], by simp [xe], by kernel_rfl, Nat.zero_le _⟩
 rintro ⟨⟨o, i⟩, hol, hil, hov, hob⟩
 simp only at hol hil hov hob
 refine zb.run hmix zq [0, 1, 5, 6, 7, 8] 400 (T := .ite (decide ((↑i : Int) < l.length)) (.leaf (.loop (Prod.fst (lps (inside K91 0) 0)) (Prod.snd (lps (inside K91 0) 0)) [(0, .sl l.length 1 (natG .i64 l)), (1, .sl m.length 1 (natG .i64 m)), (5, .osl 0 1 0 o.length), (6, .int .i64 i), (7, .int .i64 0), (8, .undef)] [.arr o.length 1 (natG .i64 o)])) (.leaf (.loop (Prod.fst (lps (inside K91 0) 1)) (Prod.snd (lps (inside K91 0) 1)) [(0, .sl l.length 1 (natG .i64 l)), (1, .sl m.length 1 (natG .i64 m)), (5, .osl 0 1 0 o.length), (6, .int .i64 i), (7, .undef), (8, .int .i64 0)] [.arr o.length 1 (natG .i64 o)]))) (by kernel_rfl) ?_
 simp only [Tree.holds, zc, inR, lo, hi, Int.toNat_natCast]
 refine ⟨fun hlt => ?_, fun hge => ?_⟩
 ·have hlt : i < l.length := by have := of_decide_eq_true hlt; omega
  refine zb.loop (ι := {z : List Nat × Nat // z.1.length = l.length + m.length ∧ z.2 ≤ m.length ∧ Ten.val z.1 = Ten.val (l.take i) * Ten.val m + 10 ^ i * (l.getD i 0 * Ten.val (m.take z.2)) ∧ (∀ p, z.1.getD p 0 ≤ 81 * i + 81) ∧ ∀ p, i + z.2 ≤ p → z.1.getD p 0 ≤ 81 * i}) (fun z => STm2 l m z.1.1 i z.1.2) (fun z => [.arr z.1.1.length 1 (natG .i64 z.1.1)]) (fun z => m.length - z.1.2) ⟨(o, 0), hol, Nat.zero_le _, by simp [hov, Ten.val], fun p => by have := hob p; simp only; omega, fun p _ => hob p⟩ 1 ?_ ?_ (by kernel_rfl)
  ·exact ⟨by simp [STm2, natS, za], by simp [za], by kernel_rfl, Nat.zero_le _⟩
  rintro ⟨⟨o2, j⟩, hol2, hjl, hov2, hob2, hob3⟩
  simp only at hol2 hjl hov2 hob2 hob3
  have e1 : ((i : Int) + (j : Int)) = ((i + j : Nat) : Int) := by omega
  refine zb.run hmix zq [0, 1, 5, 6, 7, 8] 400 (T := .ite (decide ((↑j : Int) < m.length)) (.side (inR .i64 ((↑i : Int) + j)) (.side (inR .i64 ((↑i : Int) + j)) (.side ((0 : Int) ≤ i + (↑j : Int) ∧ (↑i : Int) + j < (↑o2.length : Int)) (.side ((0 : Int) ≤ i ∧ (↑i : Int) < l.length) (.side ((0 : Int) ≤ j ∧ (↑j : Int) < m.length) (.side (inR .i64 ((↑(List.getD l (Int.toNat (↑i : Int)) 0) : Int) * (↑(List.getD m (Int.toNat (↑j : Int)) 0) : Int))) (.side (inR .i64 ((↑(List.getD o2 (0 + Int.toNat ((↑i : Int) + j)) 0) : Int) + (↑(List.getD l (Int.toNat (↑i : Int)) 0) : Int) * (↑(List.getD m (Int.toNat (↑j : Int)) 0) : Int))) (.side ((0 : Int) ≤ i + (↑j : Int) ∧ (↑i : Int) + j < (↑o2.length : Int)) (.side (inR .i64 ((↑j : Int) + (1 : Int))) (.leaf (.back 1 [(0, .sl l.length 1 (natG .i64 l)), (1, .sl m.length 1 (natG .i64 m)), (5, .osl 0 1 0 o2.length), (6, .int .i64 i), (7, .int .i64 ((↑j : Int) + (1 : Int))), (8, .undef)] [.arr o2.length 1 (updG (natG .i64 o2) (0 + Int.toNat ((↑i : Int) + j)) 0 [.int .i64 ((↑(List.getD o2 (0 + Int.toNat ((↑i : Int) + j)) 0) : Int) + (↑(List.getD l (Int.toNat (↑i : Int)) 0) : Int) * (↑(List.getD m (Int.toNat (↑j : Int)) 0) : Int))])]))))))))))) (.side (inR .i64 ((↑i : Int) + (1 : Int))) (.leaf (.back 0 [(0, .sl l.length 1 (natG .i64 l)), (1, .sl m.length 1 (natG .i64 m)), (5, .osl 0 1 0 o2.length), (6, .int .i64 ((↑i : Int) + (1 : Int))), (7, .int .i64 j), (8, .undef)] [.arr o2.length 1 (natG .i64 o2)])))) (by kernel_rfl) ?_
  simp only [Tree.holds, zc, inR, lo, hi, e1, Int.toNat_natCast, Nat.zero_add]
  have hx : l.getD i 0 < 10 := Ten.zz hl i
  have hy : m.getD j 0 < 10 := Ten.zz hm j
  have hxy : l.getD i 0 * m.getD j 0 ≤ 9 * 9 := Nat.mul_le_mul (by omega) (by omega)
  have e3 : (((l.getD i 0 : Nat) : Int)) * ((m.getD j 0 : Nat) : Int) = ((l.getD i 0 * m.getD j 0 : Nat) : Int) := by simp
  rw [e3]
  have hob3' := hob3 (i + j) (Nat.le_refl _)
  refine ⟨fun hj => ?_, fun hj => ?_⟩
  ·have hj : j < m.length := by have := of_decide_eq_true hj; omega
   have hp : i + j < o2.length := by omega
   have hcell := za3 (o := o2) (i := i) (j := j) (V := Ten.val (l.take i) * Ten.val m) (a := l.getD i 0) (vt := Ten.val (m.take j)) (b := m.getD j 0) hp hov2
   have htk := Ten.zi m j
   have hB : Ten.B = 10 := rfl
   rw [hB] at htk
   rw [← htk] at hcell
   generalize hxyv : l.getD i 0 * m.getD j 0 = xy at *
   iterate 9 refine ⟨by omega, fun _ => ?_⟩
   rw [if_pos trivial]
   refine ⟨⟨(o2.set (i + j) (o2.getD (i + j) 0 + xy), j + 1), by simpa using hol2, hj, hcell, fun p => ?_, fun p hp2 => ?_⟩, by show _ - (j + 1) < _ - j; omega, by simp [STm2, natS, za], Y4 (by omega) hp rfl, by kernel_rfl, Nat.zero_le _⟩
   ·show (o2.set _ _).getD p 0 ≤ _
    rw [jX hp]
    split
    ·omega
    ·exact hob2 p
   ·have hp2 : i + (j + 1) ≤ p := hp2
    show (o2.set _ _).getD p 0 ≤ _
    rw [jX hp, if_neg (by omega)]
    exact hob3 p (by omega)
  ·have hj : j = m.length := by have := of_decide_eq_false hj; omega
   subst hj
   refine ⟨by omega, fun _ => ?_⟩
   rw [if_neg (by decide), if_pos trivial]
   refine ⟨⟨(o2, i + 1), hol2, hlt, ?_, fun p => by have := hob2 p; simp only; omega⟩, by show _ - (i + 1) < _ - i; omega, by simp [STm, natS, za], by simp [za], by kernel_rfl, Nat.zero_le _⟩
   show Ten.val o2 = Ten.val (l.take (i + 1)) * Ten.val m
   rw [List.take_length] at hov2
   have htk := Ten.zi l i
   have hB : Ten.B = 10 := rfl
   rw [hB] at htk
   rw [hov2, htk, Nat.add_mul, Nat.mul_assoc]
 ·have hge : i = l.length := by have := of_decide_eq_false hge; omega
  subst hge
  rw [List.take_length] at hov
  exact Wi l m o hl hm hll hml hl2 hm2 hol hov (fun p => by have := hob p; omega) hq _ _ ⟨by simp [STm3], by simp [za], by kernel_rfl, Nat.zero_le _⟩
end Go.Proofs.Tryz
end
