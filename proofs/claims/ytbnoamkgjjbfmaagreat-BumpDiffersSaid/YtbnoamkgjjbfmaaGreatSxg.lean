/- The law returns true for every input, and each argument reads afterwards as it read before; no condition. -/
import Derived.Test.YtbnoamkgjjbfmaaGreatSxf
import Derived.SizedLaws
import Derived.ChangeArms
import Derived.Deep.Slices
import Derived.Carry
import Derived.LaidMore
import Derived.WideKeyElems2
import Derived.ProofKit
import Derived.OpenShut
import Derived.ReadAgain
import Derived.Test.YtbnoamkgjjbfmaaGreatRows
set_option linter.unusedVariables false
set_option linter.unusedSimpArgs false
set_option linter.unusedSectionVars false

/- Differences: Central, Cross. -/
section
set_option maxRecDepth 100000
open Go Go.Sx Go.Proofs Go.Nov
namespace Go.Proofs.Tryz
attribute [local simp] eqKV eqA eqA0 eqH eqB eqL eqL0
theorem qM {A B : Prop} (ha : A) (hb : B) : (∃ _ : Bool, True) ∧ ∀ n : Bool, True → (n = true → A) ∧ (n = false → B) := ⟨⟨true, trivial⟩, fun _ _ => ⟨fun _ => ha, fun _ => hb⟩⟩
theorem j6 {t : Tp} {pl : List Int} : qA t pl = true ↔ ∀ j, j < pl.length → 0 ≤ dgF pl j ∧ dgF pl j < t.n := by
 unfold qA
 rw [List.all_eq_true]
 constructor
 ·intro g j hj
  have := g (dgF pl j) (by simp [dgF, List.getD, hj])
  simpa using this
 ·intro g x hx
  obtain ⟨j, hj, rfl⟩ := List.getElem_of_mem hx
  have := g j hj
  simp only [dgF, List.getD, List.getElem?_eq_getElem hj, Option.getD_some] at this
  simpa using this
theorem uE {t : Tp} {pl : List Int} (h : qA t pl = true) : ∀ i ∈ pl, 0 ≤ i ∧ i < t.n := by
 intro i hi2
 have := List.all_eq_true.1 h i hi2
 simpa using this
theorem Uc {x n : Int} (h : (!bif decide (0 ≤ x) then decide (x < n) else false) = false) : 0 ≤ x ∧ x < n := by
 by_cases a : 0 ≤ x
 ·by_cases b : x < n
  ·exact ⟨a, b⟩
  ·rw [decide_eq_true a, decide_eq_false b] at h; cases h
 ·rw [decide_eq_false a] at h; cases h
theorem JS {i k : Int} : eqG 2 1 (zf 1 [.int .i64 i, .int .i64 k]) (tgI .i64 (dgF [i, k])) := by
 intro j o hj ho
 obtain rfl : o = 0 := by omega
 rcases (show j = 0 ∨ j = 1 by omega) with rfl | rfl <;> rfl
theorem jZ {e : Int} {r : List UInt8 × Int} (h : zN r) : zN (stpA e r) := by
 unfold stpA
 by_cases g : e = 0
 ·rw [if_neg (fun q => q g)]; exact h
 ·rw [if_pos g]; exact ⟨fun q => absurd q g, fun _ => rfl⟩
theorem yQ {r : List UInt8 × Int} : stpA 0 r = r := if_neg (fun q => q rfl)
theorem xE {e : Int} {r : List UInt8 × Int} (h : (stpA e r).2 = 0) : e = 0 := by
 unfold stpA at h
 by_cases g : e = 0
 ·exact g
 ·rw [if_pos g] at h; exact absurd h g
theorem zb1 {e k : Int} {x y : List UInt8} (h : (stp e (arR k) x y).2 = 0) : e = 0 := by
 unfold stp at h
 by_cases g : e = 0
 ·exact g
 ·rw [if_pos g] at h; exact absurd h g
theorem zc3 {t : Tp} {inp : List (List UInt8)} {h : List UInt8} {i k : Int} (hh : errR h = 0) (p1 : zh t = 0) (p2 : (inp.length : Int) = t.n) (p3 : allQ inp) (hv : errR (zx t inp).1 = 0) (hi2 : 0 ≤ i ∧ i < t.n) (hk : 0 ≤ k ∧ k < t.n) : zN (croE t inp i k h) ∧ zN (croF t inp i k h) := by
 have ga : zN (atT t inp h [i, k]) := qn hh p1 p2 p3 (by simp; omega)
 have gb : zN (croA t inp i k h) := jZ (qn hh p1 p2 p3 (by simp; omega))
 have gc : zN (croB t inp i k h) := jZ (qn hh p1 p2 p3 (by simp; omega))
 have gd : zN (croC t inp i k h) := by
  unfold croC; rw [← arR4]
  exact zG fun q => ⟨zT ga (xE (xE q)), zT gb (xE q)⟩
 have gs : zN (croD t inp i k h) := by
  unfold croD; rw [← arR4]
  exact zG fun q => ⟨zT gd q, zT gc (zb1 (k := 4) (by rw [arR4]; exact q))⟩
 have gt : zN (croE t inp i k h) := by
  unfold croE; rw [← arR3]
  exact zG fun q => ⟨zT gs q, hv⟩
 refine ⟨gt, ?_⟩
 unfold croF; rw [← arR5]
 exact zG fun _ => ⟨hh, hh⟩
noncomputable def GE2 : Nat → Option Ctr := fun f => if f = 17 then some (Vp) else if f = 16 then some (ddoC) else if f = 18 then some (datC) else none
theorem zfb : ∀ g c, GE2 g = some c → zg Tryz.prog g c := okIf uU (okIf xr (okIf KK (zp)))
noncomputable def zdq : Ctr := inlC Tryz.prog GE2 300 Tryz.f23
theorem zcn : zg Tryz.prog 23 zdq := wP hmix zfb rfl rfl
def HB2 (h : List UInt8) (i : Int) : Heap := [.arrI .i64 1 (dgF [i]), .box [.str h], .box [.int .i64 i]]
def Xy : Ctr := ctrT false false (fun p : Tp × List (List UInt8) × List UInt8 × Int => [p.1.av, ratS p.2.1, .str p.2.2.1, .osl 0 1 0 1, .fn 23 [] [.ptr 1 0, .ptr 2 0]])
 (fun p => HB2 p.2.2.1 p.2.2.2)
 (fun p => qe p.1 ∧ qt p.2.1 ∧ p.2.2.1.length < 2 ^ 49) (fun p r => r = cenT p.1 p.2.1 p.2.2.2 p.2.2.1)
 (fun p (r : List UInt8 × Int) => (.tup [.str r.1, .int .i64 r.2], HB2 p.2.2.1 p.2.2.2))
def SD2 (inp : List (List UInt8)) (h v : List UInt8) (j : Nat) : KV := [(1, ratS inp), (2, .str h), (4, .fn 23 [] [.ptr 1 0, .ptr 2 0]), (5, .ptr 3 0), (12, .str v), (30, .osl 0 1 0 1), (31, .int .i64 1), (32, .int .i64 (j : Int))]
def HD2 (n : Int) (ops : List TOp) (h : List UInt8) (i : Int) : Heap := [.arrI .i64 1 (dgF [i]), .box [.str h], .box [.int .i64 i], .box [.int .i64 n, opS ops]]
noncomputable def GF2 : Nat → Option Ctr := fun f => if f = 28 then some (Xm) else if f = 29 then some (bwI) else if f = 30 then some (km) else if f = 23 then some (zdq) else if f = 16 then some (ddoC) else none
theorem UR : ∀ g c, GF2 g = some c → zg Tryz.prog g c := okIf Wo (okIf XH (okIf wK (okIf zcn (okIf xr (zp)))))
theorem zci : zg Tryz.prog 14 Xy := by
 refine jw (fn := Tryz.f14) (c := Tryz.f14.body.getD .skip) rfl rfl rfl (fun h => by cases h) fun p hp O w0 σ0 Q hl0 hq => ?_
 obtain ⟨⟨n, ops⟩, inp, h, i⟩ := p
 replace hq := hq _ rfl
 obtain ⟨h1, h2, h3⟩ := hp
 simp only at h1 h2 h3 hq
 refine zd.run hmix UR [1, 2, 4, 5, 12, 30, 31, 32] 400 (T := .ex (fun (x : Tp × List (List UInt8)) => eqL [AV.agg [AV.int .i64 n, AV.sl ops.length 4 (opG ops)], AV.sl inp.length 1 (ratG inp)] [AV.agg [AV.int .i64 x.1.n, AV.sl x.1.ops.length 4 (opG x.1.ops)], AV.sl x.2.length 1 (ratG x.2)] ∧ qe x.1 ∧ qt x.2) fun n_1 => .all (fun (r : List UInt8 × Int) => r = zx n_1.1 n_1.2) fun n_2 => .ite (!decide (n_2.2 = 0)) (.leaf (.ret [.str (Array.toList #[]), .int .i64 n_2.2] [Blk.arrI .i64 1 (dgF [i]), .box [.str h], .box [.int .i64 i], .box [.int .i64 n, .sl ops.length 4 (opG ops)]])) (.leaf (.loop (Prod.fst (lps K14 0)) (Prod.snd (lps K14 0)) [(1, .sl inp.length 1 (ratG inp)), (2, .str h), (4, .fn 23 [] [.ptr 1 0, .ptr 2 0]), (5, .ptr 3 0), (12, .str n_2.1), (30, .osl 0 1 0 1), (31, .int .i64 1), (32, .int .i64 0)] [Blk.arrI .i64 1 (dgF [i]), .box [.str h], .box [.int .i64 i], .box [.int .i64 n, .sl ops.length 4 (opG ops)]]))) (by kernel_rfl) ?_
 simp only [Tree.holds, ze]
 generalize hF : cenT ⟨n, ops⟩ inp i h = F at hq
 have fin : ∀ (r : List UInt8 × Int) (b : Heap), F = r → RetR Xy 3 Q [.str r.1, .int .i64 r.2] ([.arrI .i64 1 (dgF [i]), .box [.str h], .box [.int .i64 i]] ++ b) := by
  intro r b hr
  rw [hr] at hq
  exact RetR.keep [0, 1, 2] rfl (by simp) (by show ∀ j, j < 3 → _; decide) rfl hq (by simp [resV, exp2, exp1, exp0, ren0, eqA2, eqL1]) (by simp [expH, expB, exp1, exp0, ren0, HB2, zc]) rfl
 have bad : ∀ (e : Int) (b : Heap), begT ⟨n, ops⟩ inp [i] h = e → e ≠ 0 → RetR Xy 3 Q [.str [], .int .i64 e] ([.arrI .i64 1 (dgF [i]), .box [.str h], .box [.int .i64 i]] ++ b) := by
  intro e b he he0
  refine fin ([], e) b ?_
  rw [← hF]
  unfold cenT
  rw [he, if_pos he0]
 refine ⟨(⟨n, ops⟩, inp), ⟨by simp [zc], h1, h2⟩, ⟨_, rfl⟩, ?_⟩
 intro v hv
 replace hv : v = zx ⟨n, ops⟩ inp := hv
 refine ⟨fun g => ?_, fun g => ?_⟩
 ·have g : v.2 ≠ 0 := by simpa using g
  exact bad _ [_] (by unfold begT; rw [← hv, if_pos g]) g
 have g : v.2 = 0 := by simpa using g
 have hbeg : begT ⟨n, ops⟩ inp [i] h = if qA ⟨n, ops⟩ [i] then (if errR h ≠ 0 then errR h else if h = [48] then 16 else 0) else 2 := by
  unfold begT; rw [← hv, if_neg (fun k => k g)]
 refine zd.loop (ι := {j : Nat // j ≤ 1 ∧ ∀ m, m < j → 0 ≤ dgF [i] m ∧ dgF [i] m < n}) (fun j => SD2 inp h v.1 j.1) (fun _ => HD2 n ops h i) (fun j => 1 - j.1) ⟨0, Nat.zero_le _, fun j q => absurd q (Nat.not_lt_zero j)⟩ 0 ?_ ?_ (by kernel_rfl)
 ·exact ⟨by simp [SD2, ratS, zc], by simp [HD2, opS, zc], by kernel_rfl, by show 3 ≤ 3 + 1; decide⟩
 rintro ⟨j, hj, hjp⟩
 refine zd.run hmix UR [1, 2, 4, 5, 12, 30, 31, 32] 400 (T := .ite (decide ((↑j : Int) < 1)) (.side ((0 : Int) ≤ j ∧ (↑j : Int) < 1) (.ite (!bif decide ((0 : Int) ≤ dgF [i] (0 + Int.toNat (↑j : Int))) then decide (dgF [i] (0 + Int.toNat (↑j : Int)) < n) else false) (.leaf (.ret [.str (Array.toList #[]), .int .i64 2] [Blk.arrI .i64 1 (dgF [i]), .box [.str h], .box [.int .i64 i], .box [.int .i64 n, .sl ops.length 4 (opG ops)]])) (.side (inR .i64 ((↑j : Int) + (1 : Int))) (.leaf (.back 0 [(1, .sl inp.length 1 (ratG inp)), (2, .str h), (4, .fn 23 [] [.ptr 1 0, .ptr 2 0]), (5, .ptr 3 0), (12, .str v.1), (30, .osl 0 1 0 1), (31, .int .i64 1), (32, .int .i64 ((↑j : Int) + (1 : Int)))] [Blk.arrI .i64 1 (dgF [i]), .box [.str h], .box [.int .i64 i], .box [.int .i64 n, .sl ops.length 4 (opG ops)]]))))) (.ex (fun (x : List UInt8) => eqL [AV.str h] [AV.str x] ∧ x.length < 4611686018427387904) fun n_1 => .all (fun (r : Int) => r = errR n_1) fun n_2 => .ite (!decide (n_2 = 0)) (.leaf (.ret [.str (Array.toList #[]), .int .i64 n_2] [Blk.arrI .i64 1 (dgF [i]), .box [.str h], .box [.int .i64 i], .box [.int .i64 n, .sl ops.length 4 (opG ops)]])) (.ite (decide (h = Array.toList #[(48 : UInt8)])) (.leaf (.ret [.str (Array.toList #[]), .int .i64 16] [Blk.arrI .i64 1 (dgF [i]), .box [.str h], .box [.int .i64 i], .box [.int .i64 n, .sl ops.length 4 (opG ops)]])) (.ex (fun (x : List UInt8 × List UInt8) => eqL [AV.str (Array.toList #[(48 : UInt8)]), AV.str h] [AV.str x.1, AV.str x.2] ∧ x.1.length < 2305843009213693952 ∧ x.2.length < 2305843009213693952) fun n_3 => .all (fun (r : List UInt8 × Int) => r = subR n_3.1 n_3.2) fun n_4 => .ex (fun (x : Tp × List (List UInt8) × Int × List UInt8 × List Int) => eqL [AV.ptr 0 0, AV.str h, AV.osl 1 1 0 1] [AV.ptr 0 0, AV.str x.2.2.2.1, AV.osl 1 1 0 x.2.2.2.2.length] ∧ eqH [.box [AV.int .i64 n, AV.sl ops.length 4 (opG ops), AV.sl inp.length 1 (ratG inp), AV.int .i64 0], .arr 1 1 (zf 1 [AV.int .i64 i])] [.box [AV.int .i64 x.1.n, AV.sl x.1.ops.length 4 (opG x.1.ops), AV.sl x.2.1.length 1 (ratG x.2.1), AV.int .i64 x.2.2.1], Blk.arrI .i64 x.2.2.2.2.length (dgF x.2.2.2.2)] ∧ 2 = 2 ∧ zh x.1 = 0 ∧ (↑x.2.1.length : Int) = Tp.n x.1 ∧ allQ x.2.1 ∧ errR x.2.2.2.1 = 0 ∧ (∀ (i : Int), i ∈ x.2.2.2.2 → (0 : Int) ≤ i ∧ i < Tp.n x.1) ∧ x.2.2.2.2.length < 1099511627776) fun n_5 => .all (fun (r : List UInt8 × Int) => r = stpA n_5.2.2.1 (atT n_5.1 n_5.2.1 n_5.2.2.2.1 n_5.2.2.2.2)) fun n_6 => .ex (fun (x : Tp × List (List UInt8) × Int × List UInt8 × List Int) => eqL [AV.ptr 0 0, AV.str n_4.1, AV.osl 1 1 0 1] [AV.ptr 0 0, AV.str x.2.2.2.1, AV.osl 1 1 0 x.2.2.2.2.length] ∧ eqH [.box [AV.int .i64 n_5.1.n, AV.sl n_5.1.ops.length 4 (opG n_5.1.ops), AV.sl n_5.2.1.length 1 (ratG n_5.2.1), AV.int .i64 n_6.2], .arr 1 1 (zf 1 [AV.int .i64 i])] [.box [AV.int .i64 x.1.n, AV.sl x.1.ops.length 4 (opG x.1.ops), AV.sl x.2.1.length 1 (ratG x.2.1), AV.int .i64 x.2.2.1], Blk.arrI .i64 x.2.2.2.2.length (dgF x.2.2.2.2)] ∧ 2 = 2 ∧ zh x.1 = 0 ∧ (↑x.2.1.length : Int) = Tp.n x.1 ∧ allQ x.2.1 ∧ errR x.2.2.2.1 = 0 ∧ (∀ (i : Int), i ∈ x.2.2.2.2 → (0 : Int) ≤ i ∧ i < Tp.n x.1) ∧ x.2.2.2.2.length < 1099511627776) fun n_7 => .all (fun (r : List UInt8 × Int) => r = stpA n_7.2.2.1 (atT n_7.1 n_7.2.1 n_7.2.2.2.1 n_7.2.2.2.2)) fun n_8 => .ex (fun (x : Tp × List (List UInt8) × Int × Int × List UInt8 × List UInt8) => eqL [AV.ptr 0 0, AV.fn 17 [] [], AV.str n_6.1, AV.str n_8.1] [AV.ptr 0 0, AV.fn (opN x.2.2.2.1) [] [], AV.str x.2.2.2.2.1, AV.str x.2.2.2.2.2] ∧ eqH [.box [AV.int .i64 n_7.1.n, AV.sl n_7.1.ops.length 4 (opG n_7.1.ops), AV.sl n_7.2.1.length 1 (ratG n_7.2.1), AV.int .i64 n_8.2]] [.box [AV.int .i64 x.1.n, AV.sl x.1.ops.length 4 (opG x.1.ops), AV.sl x.2.1.length 1 (ratG x.2.1), AV.int .i64 x.2.2.1]] ∧ 1 = 1 ∧ (x.2.2.2.1 = 3 ∨ x.2.2.2.1 = 4 ∨ x.2.2.2.1 = 5 ∨ x.2.2.2.1 = 6) ∧ x.2.2.2.2.1.length < 2305843009213693952 ∧ x.2.2.2.2.2.length < 2305843009213693952) fun n_9 => .all (fun (r : List UInt8 × Int) => r = stp n_9.2.2.1 (arR n_9.2.2.2.1) n_9.2.2.2.2.1 n_9.2.2.2.2.2) fun n_10 => .ex (fun (x : Tp × List (List UInt8) × Int × Int × List UInt8 × List UInt8) => eqL [AV.ptr 0 0, AV.fn 24 [] [], AV.str h, AV.str h] [AV.ptr 0 0, AV.fn (opN x.2.2.2.1) [] [], AV.str x.2.2.2.2.1, AV.str x.2.2.2.2.2] ∧ eqH [.box [AV.int .i64 n_9.1.n, AV.sl n_9.1.ops.length 4 (opG n_9.1.ops), AV.sl n_9.2.1.length 1 (ratG n_9.2.1), AV.int .i64 n_10.2]] [.box [AV.int .i64 x.1.n, AV.sl x.1.ops.length 4 (opG x.1.ops), AV.sl x.2.1.length 1 (ratG x.2.1), AV.int .i64 x.2.2.1]] ∧ 1 = 1 ∧ (x.2.2.2.1 = 3 ∨ x.2.2.2.1 = 4 ∨ x.2.2.2.1 = 5 ∨ x.2.2.2.1 = 6) ∧ x.2.2.2.2.1.length < 2305843009213693952 ∧ x.2.2.2.2.2.length < 2305843009213693952) fun n_11 => .all (fun (r : List UInt8 × Int) => r = stp n_11.2.2.1 (arR n_11.2.2.2.1) n_11.2.2.2.2.1 n_11.2.2.2.2.2) fun n_12 => .ex (fun (x : Tp × List (List UInt8) × Int × Int × List UInt8 × List UInt8) => eqL [AV.ptr 0 0, AV.fn 31 [] [], AV.str n_10.1, AV.str n_12.1] [AV.ptr 0 0, AV.fn (opN x.2.2.2.1) [] [], AV.str x.2.2.2.2.1, AV.str x.2.2.2.2.2] ∧ eqH [.box [AV.int .i64 n_11.1.n, AV.sl n_11.1.ops.length 4 (opG n_11.1.ops), AV.sl n_11.2.1.length 1 (ratG n_11.2.1), AV.int .i64 n_12.2]] [.box [AV.int .i64 x.1.n, AV.sl x.1.ops.length 4 (opG x.1.ops), AV.sl x.2.1.length 1 (ratG x.2.1), AV.int .i64 x.2.2.1]] ∧ 1 = 1 ∧ (x.2.2.2.1 = 3 ∨ x.2.2.2.1 = 4 ∨ x.2.2.2.1 = 5 ∨ x.2.2.2.1 = 6) ∧ x.2.2.2.2.1.length < 2305843009213693952 ∧ x.2.2.2.2.2.length < 2305843009213693952) fun n_13 => .all (fun (r : List UInt8 × Int) => r = stp n_13.2.2.1 (arR n_13.2.2.2.1) n_13.2.2.2.2.1 n_13.2.2.2.2.2) fun n_14 => .ite (!decide (n_14.2 = 0)) (.leaf (.ret [.str (Array.toList #[]), .int .i64 n_14.2] [Blk.arrI .i64 1 (dgF [i]), .box [.str h], .box [.int .i64 i], .box [.int .i64 n, .sl ops.length 4 (opG ops)], .box [.int .i64 n_13.1.n, .sl n_13.1.ops.length 4 (opG n_13.1.ops), .sl n_13.2.1.length 1 (ratG n_13.2.1), .int .i64 n_14.2], Blk.arrI .i64 n_5.2.2.2.2.length (dgF n_5.2.2.2.2), Blk.arrI .i64 n_7.2.2.2.2.length (dgF n_7.2.2.2.2)])) (.leaf (.ret [.str n_14.1, .int .i64 0] [Blk.arrI .i64 1 (dgF [i]), .box [.str h], .box [.int .i64 i], .box [.int .i64 n, .sl ops.length 4 (opG ops)], .box [.int .i64 n_13.1.n, .sl n_13.1.ops.length 4 (opG n_13.1.ops), .sl n_13.2.1.length 1 (ratG n_13.2.1), .int .i64 n_14.2], Blk.arrI .i64 n_5.2.2.2.2.length (dgF n_5.2.2.2.2), Blk.arrI .i64 n_7.2.2.2.2.length (dgF n_7.2.2.2.2)])))))) (by kernel_rfl) ?_
 simp only [Tree.holds, ze, inR, lo, hi, Int.toNat_natCast, Nat.zero_add]
 refine ⟨fun hlt => ?_, fun hge => ?_⟩
 ·have hlt : j < 1 := by have := of_decide_eq_true hlt; omega
  refine ⟨by omega, fun _ => ⟨fun g2 => ?_, fun g2 => ⟨by omega, fun _ => ?_⟩⟩⟩
  ·refine bad 2 [_] ?_ (by decide)
   rw [hbeg, if_neg]
   intro g3
   have g3 := j6.1 g3 j hlt
   rw [decide_eq_true g3.1, decide_eq_true g3.2] at g2
   cases g2
  ·rw [if_pos trivial]
   have g3 : 0 ≤ dgF [i] j ∧ dgF [i] j < n := Uc g2
   refine ⟨⟨j + 1, hlt, fun m hm => ?_⟩, by show 1 - (j + 1) < 1 - j; omega, by simp [SD2, ratS, zc], by simp [HD2, opS, zc], by kernel_rfl, by show 3 ≤ 3 + 1; decide⟩
   rcases Nat.lt_or_ge m j with q | q
   ·exact hjp m q
   ·exact (show m = j by omega) ▸ g3
 have hj1 : j = 1 := by have := of_decide_eq_false hge; omega
 subst hj1
 have hplB : qA ⟨n, ops⟩ [i] = true := j6.2 hjp
 have hpl := uE hplB
 rw [if_pos hplB] at hbeg
 refine ⟨h, ⟨by simp, by omega⟩, ⟨_, rfl⟩, ?_⟩
 intro e he
 replace he : e = errR h := he
 rw [← he] at hbeg
 refine ⟨fun g2 => ?_, fun g2 => ?_⟩
 ·have g2 : e ≠ 0 := by simpa using g2
  exact bad _ [_] (by rw [hbeg, if_pos g2]) g2
 have g2 : e = 0 := by simpa using g2
 rw [if_neg (fun q => q g2)] at hbeg
 refine ⟨fun g4 => ?_, fun g4 => ?_⟩
 ·exact bad _ [_] (by rw [hbeg, if_pos (of_decide_eq_true g4)]) (by decide)
 rw [if_neg (of_decide_eq_false g4)] at hbeg
 obtain ⟨v1, v2, v3, v4, v5⟩ := kn (hv ▸ g)
 have v4' := v4
 rw [← hv] at v4
 have he0 : errR h = 0 := he ▸ g2
 have hl := zR he0
 have hlv := zR v4
 have hz := zero_sub he0
 have hng : errR (negS h) = 0 := by
  have := (kj Jn.1 he0 (by rw [hz])).1
  rwa [hz] at this
 refine ⟨([48], h), ⟨by simp, by show 1 < _; decide, by show h.length < _; omega⟩, ⟨_, rfl⟩, ?_⟩
 intro m hm
 replace hm : m = subR [48] h := hm
 rw [hz] at hm
 subst hm
 refine ⟨(⟨n, ops⟩, inp, 0, h, [i]), ⟨by simp, by simp [zc]; exact jE, trivial, v1, v2, v3, he0, hpl, by simp⟩, ⟨_, rfl⟩, ?_⟩
 intro a ha
 replace ha : a = stpA 0 (atT ⟨n, ops⟩ inp h [i]) := ha
 have ga : zN a := ha ▸ jZ (qn he0 v1 v2 v3 hpl)
 have la := zy ga
 refine ⟨(⟨n, ops⟩, inp, a.2, (negS h), [i]), ⟨by simp, by simp [zc]; exact jE, trivial, v1, v2, v3, hng, hpl, by simp⟩, ⟨_, rfl⟩, ?_⟩
 intro c hc
 replace hc : c = stpA a.2 (atT ⟨n, ops⟩ inp (negS h) [i]) := hc
 have gc : zN c := hc ▸ jZ (qn hng v1 v2 v3 hpl)
 have lc := zy gc
 refine ⟨(⟨n, ops⟩, inp, c.2, 4, a.1, c.1), ⟨by simp [opN], by simp [zc], trivial, .inr (.inl rfl), by show (a.1).length < _; omega, by show (c.1).length < _; omega⟩, ⟨_, rfl⟩, ?_⟩
 intro d hd
 replace hd : d = stp c.2 (arR 4) a.1 c.1 := hd
 have gd : zN d := hd ▸ zG (fun q => ⟨zT ga (xE (hc ▸ q)), zT gc q⟩)
 have ld := zy gd
 refine ⟨(⟨n, ops⟩, inp, d.2, 3, h, h), ⟨by simp [opN], by simp [zc], trivial, .inl rfl, by show (h).length < _; omega, by show (h).length < _; omega⟩, ⟨_, rfl⟩, ?_⟩
 intro s hs
 replace hs : s = stp d.2 (arR 3) h h := hs
 have gs : zN s := hs ▸ zG (fun q => ⟨he0, he0⟩)
 have ls := zy gs
 refine ⟨(⟨n, ops⟩, inp, s.2, 6, d.1, s.1), ⟨by simp [opN], by simp [zc], trivial, .inr (.inr (.inr rfl)), by show (d.1).length < _; omega, by show (s.1).length < _; omega⟩, ⟨_, rfl⟩, ?_⟩
 intro w hw
 replace hw : w = stp s.2 (arR 6) d.1 s.1 := hw
 have hFw : F = endR w := by
  rw [yQ] at ha
  rw [← hF]
  unfold cenT cenH cenD cenW
  rw [if_neg (fun q => q hbeg), ← ha, ← hc, ← arR4, ← hd, ← arR3, ← hs, ← arR6, ← hw]
 unfold endR at hFw
 refine ⟨fun g5 => ?_, fun g5 => ?_⟩
 ·have g5 : w.2 ≠ 0 := by simpa using g5
  rw [if_pos g5] at hFw
  exact fin ([], w.2) _ hFw
 ·have g5 : w.2 = 0 := by simpa using g5
  rw [if_neg (fun q => q g5)] at hFw
  exact fin (w.1, 0) _ hFw
def cenC : Ctr := ctrP true (fun p : Tp × List (List UInt8) × Int × List UInt8 => [p.1.av, ratS p.2.1, .int .i64 p.2.2.1, .str p.2.2.2])
 (fun p => qe p.1 ∧ qt p.2.1 ∧ p.2.2.2.length < 2 ^ 49) (fun p r => r = cenT p.1 p.2.1 p.2.2.1 p.2.2.2)
 (fun p (r : List UInt8 × Int) => (.tup [.str r.1, .int .i64 r.2], []))
noncomputable def GG2 : Nat → Option Ctr := fun f => if f = 14 then some (Xy) else none
theorem ze9 : ∀ g c, GG2 g = some c → zg Tryz.prog g c := okIf zci (zp)
theorem zeb : zg Tryz.prog 8 cenC := by
 refine zi (fn := Tryz.f8) (c := Tryz.f8.body.getD .skip) rfl rfl rfl fun p hp O w0 Q hq => ?_
 obtain ⟨⟨n, ops⟩, inp, i, h⟩ := p
 replace hq := hq _ rfl
 simp only at hp hq
 refine zd.run hmix ze9 [] 400 (T := .ex (fun (x : Tp × List (List UInt8) × List UInt8 × Int) => eqL [AV.agg [AV.int .i64 n, AV.sl ops.length 4 (opG ops)], AV.sl inp.length 1 (ratG inp), AV.str h, AV.osl 0 1 0 1, AV.fn 23 [] [AV.ptr 1 0, AV.ptr 2 0]] [AV.agg [AV.int .i64 x.1.n, AV.sl x.1.ops.length 4 (opG x.1.ops)], AV.sl x.2.1.length 1 (ratG x.2.1), AV.str x.2.2.1, AV.osl 0 1 0 1, AV.fn 23 [] [AV.ptr 1 0, AV.ptr 2 0]] ∧ eqH [.arr 1 1 (zf 1 [AV.int .i64 i]), .box [AV.str h], .box [AV.int .i64 i]] [Blk.arrI .i64 1 (dgF [x.2.2.2]), .box [AV.str x.2.2.1], .box [AV.int .i64 x.2.2.2]] ∧ 3 = 3 ∧ qe x.1 ∧ qt x.2.1 ∧ x.2.2.1.length < 562949953421312) fun n_1 => .all (fun (r : List UInt8 × Int) => r = cenT n_1.1 n_1.2.1 n_1.2.2.2 n_1.2.2.1) fun n_2 => .leaf (.ret [.str n_2.1, .int .i64 n_2.2] [.box [.int .i64 n, .sl ops.length 4 (opG ops)], .box [.int .i64 n_1.2.2.2], .box [.str n_1.2.2.1], Blk.arrI .i64 1 (dgF [n_1.2.2.2])])) (by kernel_rfl) ?_
 simp only [Tree.holds, ze]
 refine ⟨(⟨n, ops⟩, inp, h, i), ⟨by simp [zc], by simp [HB2]; exact jE, by simp [HB2], hp⟩, ⟨_, rfl⟩, ?_⟩
 rintro _ rfl
 exact RetR.scal hq rfl (by simp [resV])
noncomputable def GE3 : Nat → Option Ctr := fun f => if f = 17 then some (Vp) else if f = 16 then some (ddoC) else if f = 18 then some (datC) else none
theorem zej : ∀ g c, GE3 g = some c → zg Tryz.prog g c := okIf uU (okIf xr (okIf KK (zp)))
def HCr (t : Tp) (inp : List (List UInt8)) (e : Int) (h : List UInt8) (i k : Int) : Heap := [HDf t inp e, .box [.str h], .box [.int .i64 i], .box [.int .i64 k]]
structure XCr where
 t : Tp
 inp : List (List UInt8)
 h : List UInt8
 i : Int
 k : Int
 v : List UInt8
def ze0 : Ctr := ctrT false false (fun p : XCr => [.ptr 0 0, .str p.v, .ptr 1 0, .ptr 2 0, .ptr 3 0]) (fun p => HCr p.t p.inp 0 p.h p.i p.k)
 (fun p => p.v = (zx p.t p.inp).1 ∧ (zx p.t p.inp).2 = 0 ∧ errR p.h = 0 ∧ 0 ≤ p.i ∧ p.i < p.t.n ∧ 0 ≤ p.k ∧ p.k < p.t.n)
 (fun p r => r = (croE p.t p.inp p.i p.k p.h, croF p.t p.inp p.i p.k p.h))
 (fun p (r : (List UInt8 × Int) × List UInt8 × Int) => (.tup [.str r.1.1, .str r.2.1], HCr p.t p.inp r.2.2 p.h p.i p.k))
theorem zd7 : zg Tryz.prog 26 ze0 := by
 refine jw (fn := Tryz.f26) (c := Tryz.f26.body.getD .skip) rfl rfl rfl (fun h => by cases h) fun p hp O w0 σ0 Q hl0 hq => ?_
 obtain ⟨⟨n, ops⟩, inp, h, i, k, v⟩ := p
 obtain ⟨hv, hv0, he0, hi0, hi1, hk0, hk1⟩ := hp
 simp only at hv hv0 he0 hi0 hi1 hk0 hk1 hq
 refine zd.run hmix zej [] 400 (T := .all (fun (x : Bool) => True) fun n_1 => .ite n_1 (.all (fun (x : Bool) => True) fun n_2 => .ite n_2 (.ex (fun (x : Tp × List (List UInt8) × Int × List UInt8 × List Int) => eqL [AV.ptr 0 0, AV.str h, AV.osl 1 1 0 2] [AV.ptr 0 0, AV.str x.2.2.2.1, AV.osl 1 1 0 x.2.2.2.2.length] ∧ eqH [.box [AV.int .i64 n, AV.sl ops.length 4 (opG ops), AV.sl inp.length 1 (ratG inp), AV.int .i64 0], .arr 2 1 (zf 1 [AV.int .i64 i, AV.int .i64 k])] [.box [AV.int .i64 x.1.n, AV.sl x.1.ops.length 4 (opG x.1.ops), AV.sl x.2.1.length 1 (ratG x.2.1), AV.int .i64 x.2.2.1], Blk.arrI .i64 x.2.2.2.2.length (dgF x.2.2.2.2)] ∧ 2 = 2 ∧ zh x.1 = 0 ∧ (↑x.2.1.length : Int) = Tp.n x.1 ∧ allQ x.2.1 ∧ errR x.2.2.2.1 = 0 ∧ (∀ (i : Int), i ∈ x.2.2.2.2 → (0 : Int) ≤ i ∧ i < Tp.n x.1) ∧ x.2.2.2.2.length < 1099511627776) fun n => .all (fun (r : List UInt8 × Int) => r = stpA n.2.2.1 (atT n.1 n.2.1 n.2.2.2.1 n.2.2.2.2)) fun n_3 => .all (fun (x : Bool) => True) fun n_4 => .ite n_4 (.all (fun (x : Bool) => True) fun n_5 => .ite n_5 (.ex (fun (x : Tp × List (List UInt8) × Int × List UInt8 × List Int) => eqL [AV.ptr 0 0, AV.str h, AV.osl 1 1 0 1] [AV.ptr 0 0, AV.str x.2.2.2.1, AV.osl 1 1 0 x.2.2.2.2.length] ∧ eqH [.box [AV.int .i64 n.1.n, AV.sl n.1.ops.length 4 (opG n.1.ops), AV.sl n.2.1.length 1 (ratG n.2.1), AV.int .i64 n_3.2], .arr 1 1 (zf 1 [AV.int .i64 i])] [.box [AV.int .i64 x.1.n, AV.sl x.1.ops.length 4 (opG x.1.ops), AV.sl x.2.1.length 1 (ratG x.2.1), AV.int .i64 x.2.2.1], Blk.arrI .i64 x.2.2.2.2.length (dgF x.2.2.2.2)] ∧ 2 = 2 ∧ zh x.1 = 0 ∧ (↑x.2.1.length : Int) = Tp.n x.1 ∧ allQ x.2.1 ∧ errR x.2.2.2.1 = 0 ∧ (∀ (i : Int), i ∈ x.2.2.2.2 → (0 : Int) ≤ i ∧ i < Tp.n x.1) ∧ x.2.2.2.2.length < 1099511627776) fun n_6 => .all (fun (r : List UInt8 × Int) => r = stpA n_6.2.2.1 (atT n_6.1 n_6.2.1 n_6.2.2.2.1 n_6.2.2.2.2)) fun n_7 => .ex (fun (x : Tp × List (List UInt8) × Int × List UInt8 × List Int) => eqL [AV.ptr 0 0, AV.str h, AV.osl 1 1 0 1] [AV.ptr 0 0, AV.str x.2.2.2.1, AV.osl 1 1 0 x.2.2.2.2.length] ∧ eqH [.box [AV.int .i64 n_6.1.n, AV.sl n_6.1.ops.length 4 (opG n_6.1.ops), AV.sl n_6.2.1.length 1 (ratG n_6.2.1), AV.int .i64 n_7.2], .arr 1 1 (zf 1 [AV.int .i64 k])] [.box [AV.int .i64 x.1.n, AV.sl x.1.ops.length 4 (opG x.1.ops), AV.sl x.2.1.length 1 (ratG x.2.1), AV.int .i64 x.2.2.1], Blk.arrI .i64 x.2.2.2.2.length (dgF x.2.2.2.2)] ∧ 2 = 2 ∧ zh x.1 = 0 ∧ (↑x.2.1.length : Int) = Tp.n x.1 ∧ allQ x.2.1 ∧ errR x.2.2.2.1 = 0 ∧ (∀ (i : Int), i ∈ x.2.2.2.2 → (0 : Int) ≤ i ∧ i < Tp.n x.1) ∧ x.2.2.2.2.length < 1099511627776) fun n_8 => .all (fun (r : List UInt8 × Int) => r = stpA n_8.2.2.1 (atT n_8.1 n_8.2.1 n_8.2.2.2.1 n_8.2.2.2.2)) fun n_9 => .ex (fun (x : Tp × List (List UInt8) × Int × Int × List UInt8 × List UInt8) => eqL [AV.ptr 0 0, AV.fn 17 [] [], AV.str n_3.1, AV.str n_7.1] [AV.ptr 0 0, AV.fn (opN x.2.2.2.1) [] [], AV.str x.2.2.2.2.1, AV.str x.2.2.2.2.2] ∧ eqH [.box [AV.int .i64 n_8.1.n, AV.sl n_8.1.ops.length 4 (opG n_8.1.ops), AV.sl n_8.2.1.length 1 (ratG n_8.2.1), AV.int .i64 n_9.2]] [.box [AV.int .i64 x.1.n, AV.sl x.1.ops.length 4 (opG x.1.ops), AV.sl x.2.1.length 1 (ratG x.2.1), AV.int .i64 x.2.2.1]] ∧ 1 = 1 ∧ (x.2.2.2.1 = 3 ∨ x.2.2.2.1 = 4 ∨ x.2.2.2.1 = 5 ∨ x.2.2.2.1 = 6) ∧ x.2.2.2.2.1.length < 2305843009213693952 ∧ x.2.2.2.2.2.length < 2305843009213693952) fun n_10 => .all (fun (r : List UInt8 × Int) => r = stp n_10.2.2.1 (arR n_10.2.2.2.1) n_10.2.2.2.2.1 n_10.2.2.2.2.2) fun n_11 => .ex (fun (x : Tp × List (List UInt8) × Int × Int × List UInt8 × List UInt8) => eqL [AV.ptr 0 0, AV.fn 17 [] [], AV.str n_11.1, AV.str n_9.1] [AV.ptr 0 0, AV.fn (opN x.2.2.2.1) [] [], AV.str x.2.2.2.2.1, AV.str x.2.2.2.2.2] ∧ eqH [.box [AV.int .i64 n_10.1.n, AV.sl n_10.1.ops.length 4 (opG n_10.1.ops), AV.sl n_10.2.1.length 1 (ratG n_10.2.1), AV.int .i64 n_11.2]] [.box [AV.int .i64 x.1.n, AV.sl x.1.ops.length 4 (opG x.1.ops), AV.sl x.2.1.length 1 (ratG x.2.1), AV.int .i64 x.2.2.1]] ∧ 1 = 1 ∧ (x.2.2.2.1 = 3 ∨ x.2.2.2.1 = 4 ∨ x.2.2.2.1 = 5 ∨ x.2.2.2.1 = 6) ∧ x.2.2.2.2.1.length < 2305843009213693952 ∧ x.2.2.2.2.2.length < 2305843009213693952) fun n_12 => .all (fun (r : List UInt8 × Int) => r = stp n_12.2.2.1 (arR n_12.2.2.2.1) n_12.2.2.2.2.1 n_12.2.2.2.2.2) fun n_13 => .ex (fun (x : Tp × List (List UInt8) × Int × Int × List UInt8 × List UInt8) => eqL [AV.ptr 0 0, AV.fn 24 [] [], AV.str n_13.1, AV.str v] [AV.ptr 0 0, AV.fn (opN x.2.2.2.1) [] [], AV.str x.2.2.2.2.1, AV.str x.2.2.2.2.2] ∧ eqH [.box [AV.int .i64 n_12.1.n, AV.sl n_12.1.ops.length 4 (opG n_12.1.ops), AV.sl n_12.2.1.length 1 (ratG n_12.2.1), AV.int .i64 n_13.2]] [.box [AV.int .i64 x.1.n, AV.sl x.1.ops.length 4 (opG x.1.ops), AV.sl x.2.1.length 1 (ratG x.2.1), AV.int .i64 x.2.2.1]] ∧ 1 = 1 ∧ (x.2.2.2.1 = 3 ∨ x.2.2.2.1 = 4 ∨ x.2.2.2.1 = 5 ∨ x.2.2.2.1 = 6) ∧ x.2.2.2.2.1.length < 2305843009213693952 ∧ x.2.2.2.2.2.length < 2305843009213693952) fun n_14 => .all (fun (r : List UInt8 × Int) => r = stp n_14.2.2.1 (arR n_14.2.2.2.1) n_14.2.2.2.2.1 n_14.2.2.2.2.2) fun n_15 => .ex (fun (x : Tp × List (List UInt8) × Int × Int × List UInt8 × List UInt8) => eqL [AV.ptr 0 0, AV.fn 27 [] [], AV.str h, AV.str h] [AV.ptr 0 0, AV.fn (opN x.2.2.2.1) [] [], AV.str x.2.2.2.2.1, AV.str x.2.2.2.2.2] ∧ eqH [.box [AV.int .i64 n_14.1.n, AV.sl n_14.1.ops.length 4 (opG n_14.1.ops), AV.sl n_14.2.1.length 1 (ratG n_14.2.1), AV.int .i64 n_15.2]] [.box [AV.int .i64 x.1.n, AV.sl x.1.ops.length 4 (opG x.1.ops), AV.sl x.2.1.length 1 (ratG x.2.1), AV.int .i64 x.2.2.1]] ∧ 1 = 1 ∧ (x.2.2.2.1 = 3 ∨ x.2.2.2.1 = 4 ∨ x.2.2.2.1 = 5 ∨ x.2.2.2.1 = 6) ∧ x.2.2.2.2.1.length < 2305843009213693952 ∧ x.2.2.2.2.2.length < 2305843009213693952) fun n_16 => .all (fun (r : List UInt8 × Int) => r = stp n_16.2.2.1 (arR n_16.2.2.2.1) n_16.2.2.2.2.1 n_16.2.2.2.2.2) fun n_17 => .leaf (.ret [.str n_15.1, .str n_17.1] [.box [.int .i64 n_16.1.n, .sl n_16.1.ops.length 4 (opG n_16.1.ops), .sl n_16.2.1.length 1 (ratG n_16.2.1), .int .i64 n_17.2], .box [.str h], .box [.int .i64 i], .box [.int .i64 k], Blk.arrI .i64 n.2.2.2.2.length (dgF n.2.2.2.2), Blk.arrI .i64 n_6.2.2.2.2.length (dgF n_6.2.2.2.2), Blk.arrI .i64 n_8.2.2.2.2.length (dgF n_8.2.2.2.2)])) (.ex (fun (x : Tp × List (List UInt8) × Int × List UInt8 × List Int) => eqL [AV.ptr 0 0, AV.str h, AV.osl 1 1 0 1] [AV.ptr 0 0, AV.str x.2.2.2.1, AV.osl 1 1 0 x.2.2.2.2.length] ∧ eqH [.box [AV.int .i64 n.1.n, AV.sl n.1.ops.length 4 (opG n.1.ops), AV.sl n.2.1.length 1 (ratG n.2.1), AV.int .i64 n_3.2], .arr 1 1 (zf 1 [AV.int .i64 i])] [.box [AV.int .i64 x.1.n, AV.sl x.1.ops.length 4 (opG x.1.ops), AV.sl x.2.1.length 1 (ratG x.2.1), AV.int .i64 x.2.2.1], Blk.arrI .i64 x.2.2.2.2.length (dgF x.2.2.2.2)] ∧ 2 = 2 ∧ zh x.1 = 0 ∧ (↑x.2.1.length : Int) = Tp.n x.1 ∧ allQ x.2.1 ∧ errR x.2.2.2.1 = 0 ∧ (∀ (i : Int), i ∈ x.2.2.2.2 → (0 : Int) ≤ i ∧ i < Tp.n x.1) ∧ x.2.2.2.2.length < 1099511627776) fun n_6 => .all (fun (r : List UInt8 × Int) => r = stpA n_6.2.2.1 (atT n_6.1 n_6.2.1 n_6.2.2.2.1 n_6.2.2.2.2)) fun n_7 => .ex (fun (x : Tp × List (List UInt8) × Int × List UInt8 × List Int) => eqL [AV.ptr 0 0, AV.str h, AV.osl 1 1 0 1] [AV.ptr 0 0, AV.str x.2.2.2.1, AV.osl 1 1 0 x.2.2.2.2.length] ∧ eqH [.box [AV.int .i64 n_6.1.n, AV.sl n_6.1.ops.length 4 (opG n_6.1.ops), AV.sl n_6.2.1.length 1 (ratG n_6.2.1), AV.int .i64 n_7.2], .arr 1 1 (zf 1 [AV.int .i64 k])] [.box [AV.int .i64 x.1.n, AV.sl x.1.ops.length 4 (opG x.1.ops), AV.sl x.2.1.length 1 (ratG x.2.1), AV.int .i64 x.2.2.1], Blk.arrI .i64 x.2.2.2.2.length (dgF x.2.2.2.2)] ∧ 2 = 2 ∧ zh x.1 = 0 ∧ (↑x.2.1.length : Int) = Tp.n x.1 ∧ allQ x.2.1 ∧ errR x.2.2.2.1 = 0 ∧ (∀ (i : Int), i ∈ x.2.2.2.2 → (0 : Int) ≤ i ∧ i < Tp.n x.1) ∧ x.2.2.2.2.length < 1099511627776) fun n_8 => .all (fun (r : List UInt8 × Int) => r = stpA n_8.2.2.1 (atT n_8.1 n_8.2.1 n_8.2.2.2.1 n_8.2.2.2.2)) fun n_9 => .ex (fun (x : Tp × List (List UInt8) × Int × Int × List UInt8 × List UInt8) => eqL [AV.ptr 0 0, AV.fn 17 [] [], AV.str n_3.1, AV.str n_7.1] [AV.ptr 0 0, AV.fn (opN x.2.2.2.1) [] [], AV.str x.2.2.2.2.1, AV.str x.2.2.2.2.2] ∧ eqH [.box [AV.int .i64 n_8.1.n, AV.sl n_8.1.ops.length 4 (opG n_8.1.ops), AV.sl n_8.2.1.length 1 (ratG n_8.2.1), AV.int .i64 n_9.2]] [.box [AV.int .i64 x.1.n, AV.sl x.1.ops.length 4 (opG x.1.ops), AV.sl x.2.1.length 1 (ratG x.2.1), AV.int .i64 x.2.2.1]] ∧ 1 = 1 ∧ (x.2.2.2.1 = 3 ∨ x.2.2.2.1 = 4 ∨ x.2.2.2.1 = 5 ∨ x.2.2.2.1 = 6) ∧ x.2.2.2.2.1.length < 2305843009213693952 ∧ x.2.2.2.2.2.length < 2305843009213693952) fun n_10 => .all (fun (r : List UInt8 × Int) => r = stp n_10.2.2.1 (arR n_10.2.2.2.1) n_10.2.2.2.2.1 n_10.2.2.2.2.2) fun n_11 => .ex (fun (x : Tp × List (List UInt8) × Int × Int × List UInt8 × List UInt8) => eqL [AV.ptr 0 0, AV.fn 17 [] [], AV.str n_11.1, AV.str n_9.1] [AV.ptr 0 0, AV.fn (opN x.2.2.2.1) [] [], AV.str x.2.2.2.2.1, AV.str x.2.2.2.2.2] ∧ eqH [.box [AV.int .i64 n_10.1.n, AV.sl n_10.1.ops.length 4 (opG n_10.1.ops), AV.sl n_10.2.1.length 1 (ratG n_10.2.1), AV.int .i64 n_11.2]] [.box [AV.int .i64 x.1.n, AV.sl x.1.ops.length 4 (opG x.1.ops), AV.sl x.2.1.length 1 (ratG x.2.1), AV.int .i64 x.2.2.1]] ∧ 1 = 1 ∧ (x.2.2.2.1 = 3 ∨ x.2.2.2.1 = 4 ∨ x.2.2.2.1 = 5 ∨ x.2.2.2.1 = 6) ∧ x.2.2.2.2.1.length < 2305843009213693952 ∧ x.2.2.2.2.2.length < 2305843009213693952) fun n_12 => .all (fun (r : List UInt8 × Int) => r = stp n_12.2.2.1 (arR n_12.2.2.2.1) n_12.2.2.2.2.1 n_12.2.2.2.2.2) fun n_13 => .ex (fun (x : Tp × List (List UInt8) × Int × Int × List UInt8 × List UInt8) => eqL [AV.ptr 0 0, AV.fn 24 [] [], AV.str n_13.1, AV.str v] [AV.ptr 0 0, AV.fn (opN x.2.2.2.1) [] [], AV.str x.2.2.2.2.1, AV.str x.2.2.2.2.2] ∧ eqH [.box [AV.int .i64 n_12.1.n, AV.sl n_12.1.ops.length 4 (opG n_12.1.ops), AV.sl n_12.2.1.length 1 (ratG n_12.2.1), AV.int .i64 n_13.2]] [.box [AV.int .i64 x.1.n, AV.sl x.1.ops.length 4 (opG x.1.ops), AV.sl x.2.1.length 1 (ratG x.2.1), AV.int .i64 x.2.2.1]] ∧ 1 = 1 ∧ (x.2.2.2.1 = 3 ∨ x.2.2.2.1 = 4 ∨ x.2.2.2.1 = 5 ∨ x.2.2.2.1 = 6) ∧ x.2.2.2.2.1.length < 2305843009213693952 ∧ x.2.2.2.2.2.length < 2305843009213693952) fun n_14 => .all (fun (r : List UInt8 × Int) => r = stp n_14.2.2.1 (arR n_14.2.2.2.1) n_14.2.2.2.2.1 n_14.2.2.2.2.2) fun n_15 => .ex (fun (x : Tp × List (List UInt8) × Int × Int × List UInt8 × List UInt8) => eqL [AV.ptr 0 0, AV.fn 27 [] [], AV.str h, AV.str h] [AV.ptr 0 0, AV.fn (opN x.2.2.2.1) [] [], AV.str x.2.2.2.2.1, AV.str x.2.2.2.2.2] ∧ eqH [.box [AV.int .i64 n_14.1.n, AV.sl n_14.1.ops.length 4 (opG n_14.1.ops), AV.sl n_14.2.1.length 1 (ratG n_14.2.1), AV.int .i64 n_15.2]] [.box [AV.int .i64 x.1.n, AV.sl x.1.ops.length 4 (opG x.1.ops), AV.sl x.2.1.length 1 (ratG x.2.1), AV.int .i64 x.2.2.1]] ∧ 1 = 1 ∧ (x.2.2.2.1 = 3 ∨ x.2.2.2.1 = 4 ∨ x.2.2.2.1 = 5 ∨ x.2.2.2.1 = 6) ∧ x.2.2.2.2.1.length < 2305843009213693952 ∧ x.2.2.2.2.2.length < 2305843009213693952) fun n_16 => .all (fun (r : List UInt8 × Int) => r = stp n_16.2.2.1 (arR n_16.2.2.2.1) n_16.2.2.2.2.1 n_16.2.2.2.2.2) fun n_17 => .leaf (.ret [.str n_15.1, .str n_17.1] [.box [.int .i64 n_16.1.n, .sl n_16.1.ops.length 4 (opG n_16.1.ops), .sl n_16.2.1.length 1 (ratG n_16.2.1), .int .i64 n_17.2], .box [.str h], .box [.int .i64 i], .box [.int .i64 k], Blk.arrI .i64 n.2.2.2.2.length (dgF n.2.2.2.2), Blk.arrI .i64 n_6.2.2.2.2.length (dgF n_6.2.2.2.2), Blk.arrI .i64 n_8.2.2.2.2.length (dgF n_8.2.2.2.2)]))) (.ex (fun (x : Tp × List (List UInt8) × Int × List UInt8 × List Int) => eqL [AV.ptr 0 0, AV.str h, AV.osl 1 1 0 1] [AV.ptr 0 0, AV.str x.2.2.2.1, AV.osl 1 1 0 x.2.2.2.2.length] ∧ eqH [.box [AV.int .i64 n.1.n, AV.sl n.1.ops.length 4 (opG n.1.ops), AV.sl n.2.1.length 1 (ratG n.2.1), AV.int .i64 n_3.2], .arr 1 1 (zf 1 [AV.int .i64 i])] [.box [AV.int .i64 x.1.n, AV.sl x.1.ops.length 4 (opG x.1.ops), AV.sl x.2.1.length 1 (ratG x.2.1), AV.int .i64 x.2.2.1], Blk.arrI .i64 x.2.2.2.2.length (dgF x.2.2.2.2)] ∧ 2 = 2 ∧ zh x.1 = 0 ∧ (↑x.2.1.length : Int) = Tp.n x.1 ∧ allQ x.2.1 ∧ errR x.2.2.2.1 = 0 ∧ (∀ (i : Int), i ∈ x.2.2.2.2 → (0 : Int) ≤ i ∧ i < Tp.n x.1) ∧ x.2.2.2.2.length < 1099511627776) fun n_5 => .all (fun (r : List UInt8 × Int) => r = stpA n_5.2.2.1 (atT n_5.1 n_5.2.1 n_5.2.2.2.1 n_5.2.2.2.2)) fun n_6 => .ex (fun (x : Tp × List (List UInt8) × Int × List UInt8 × List Int) => eqL [AV.ptr 0 0, AV.str h, AV.osl 1 1 0 1] [AV.ptr 0 0, AV.str x.2.2.2.1, AV.osl 1 1 0 x.2.2.2.2.length] ∧ eqH [.box [AV.int .i64 n_5.1.n, AV.sl n_5.1.ops.length 4 (opG n_5.1.ops), AV.sl n_5.2.1.length 1 (ratG n_5.2.1), AV.int .i64 n_6.2], .arr 1 1 (zf 1 [AV.int .i64 k])] [.box [AV.int .i64 x.1.n, AV.sl x.1.ops.length 4 (opG x.1.ops), AV.sl x.2.1.length 1 (ratG x.2.1), AV.int .i64 x.2.2.1], Blk.arrI .i64 x.2.2.2.2.length (dgF x.2.2.2.2)] ∧ 2 = 2 ∧ zh x.1 = 0 ∧ (↑x.2.1.length : Int) = Tp.n x.1 ∧ allQ x.2.1 ∧ errR x.2.2.2.1 = 0 ∧ (∀ (i : Int), i ∈ x.2.2.2.2 → (0 : Int) ≤ i ∧ i < Tp.n x.1) ∧ x.2.2.2.2.length < 1099511627776) fun n_7 => .all (fun (r : List UInt8 × Int) => r = stpA n_7.2.2.1 (atT n_7.1 n_7.2.1 n_7.2.2.2.1 n_7.2.2.2.2)) fun n_8 => .ex (fun (x : Tp × List (List UInt8) × Int × Int × List UInt8 × List UInt8) => eqL [AV.ptr 0 0, AV.fn 17 [] [], AV.str n_3.1, AV.str n_6.1] [AV.ptr 0 0, AV.fn (opN x.2.2.2.1) [] [], AV.str x.2.2.2.2.1, AV.str x.2.2.2.2.2] ∧ eqH [.box [AV.int .i64 n_7.1.n, AV.sl n_7.1.ops.length 4 (opG n_7.1.ops), AV.sl n_7.2.1.length 1 (ratG n_7.2.1), AV.int .i64 n_8.2]] [.box [AV.int .i64 x.1.n, AV.sl x.1.ops.length 4 (opG x.1.ops), AV.sl x.2.1.length 1 (ratG x.2.1), AV.int .i64 x.2.2.1]] ∧ 1 = 1 ∧ (x.2.2.2.1 = 3 ∨ x.2.2.2.1 = 4 ∨ x.2.2.2.1 = 5 ∨ x.2.2.2.1 = 6) ∧ x.2.2.2.2.1.length < 2305843009213693952 ∧ x.2.2.2.2.2.length < 2305843009213693952) fun n_9 => .all (fun (r : List UInt8 × Int) => r = stp n_9.2.2.1 (arR n_9.2.2.2.1) n_9.2.2.2.2.1 n_9.2.2.2.2.2) fun n_10 => .ex (fun (x : Tp × List (List UInt8) × Int × Int × List UInt8 × List UInt8) => eqL [AV.ptr 0 0, AV.fn 17 [] [], AV.str n_10.1, AV.str n_8.1] [AV.ptr 0 0, AV.fn (opN x.2.2.2.1) [] [], AV.str x.2.2.2.2.1, AV.str x.2.2.2.2.2] ∧ eqH [.box [AV.int .i64 n_9.1.n, AV.sl n_9.1.ops.length 4 (opG n_9.1.ops), AV.sl n_9.2.1.length 1 (ratG n_9.2.1), AV.int .i64 n_10.2]] [.box [AV.int .i64 x.1.n, AV.sl x.1.ops.length 4 (opG x.1.ops), AV.sl x.2.1.length 1 (ratG x.2.1), AV.int .i64 x.2.2.1]] ∧ 1 = 1 ∧ (x.2.2.2.1 = 3 ∨ x.2.2.2.1 = 4 ∨ x.2.2.2.1 = 5 ∨ x.2.2.2.1 = 6) ∧ x.2.2.2.2.1.length < 2305843009213693952 ∧ x.2.2.2.2.2.length < 2305843009213693952) fun n_11 => .all (fun (r : List UInt8 × Int) => r = stp n_11.2.2.1 (arR n_11.2.2.2.1) n_11.2.2.2.2.1 n_11.2.2.2.2.2) fun n_12 => .ex (fun (x : Tp × List (List UInt8) × Int × Int × List UInt8 × List UInt8) => eqL [AV.ptr 0 0, AV.fn 24 [] [], AV.str n_12.1, AV.str v] [AV.ptr 0 0, AV.fn (opN x.2.2.2.1) [] [], AV.str x.2.2.2.2.1, AV.str x.2.2.2.2.2] ∧ eqH [.box [AV.int .i64 n_11.1.n, AV.sl n_11.1.ops.length 4 (opG n_11.1.ops), AV.sl n_11.2.1.length 1 (ratG n_11.2.1), AV.int .i64 n_12.2]] [.box [AV.int .i64 x.1.n, AV.sl x.1.ops.length 4 (opG x.1.ops), AV.sl x.2.1.length 1 (ratG x.2.1), AV.int .i64 x.2.2.1]] ∧ 1 = 1 ∧ (x.2.2.2.1 = 3 ∨ x.2.2.2.1 = 4 ∨ x.2.2.2.1 = 5 ∨ x.2.2.2.1 = 6) ∧ x.2.2.2.2.1.length < 2305843009213693952 ∧ x.2.2.2.2.2.length < 2305843009213693952) fun n_13 => .all (fun (r : List UInt8 × Int) => r = stp n_13.2.2.1 (arR n_13.2.2.2.1) n_13.2.2.2.2.1 n_13.2.2.2.2.2) fun n_14 => .ex (fun (x : Tp × List (List UInt8) × Int × Int × List UInt8 × List UInt8) => eqL [AV.ptr 0 0, AV.fn 27 [] [], AV.str h, AV.str h] [AV.ptr 0 0, AV.fn (opN x.2.2.2.1) [] [], AV.str x.2.2.2.2.1, AV.str x.2.2.2.2.2] ∧ eqH [.box [AV.int .i64 n_13.1.n, AV.sl n_13.1.ops.length 4 (opG n_13.1.ops), AV.sl n_13.2.1.length 1 (ratG n_13.2.1), AV.int .i64 n_14.2]] [.box [AV.int .i64 x.1.n, AV.sl x.1.ops.length 4 (opG x.1.ops), AV.sl x.2.1.length 1 (ratG x.2.1), AV.int .i64 x.2.2.1]] ∧ 1 = 1 ∧ (x.2.2.2.1 = 3 ∨ x.2.2.2.1 = 4 ∨ x.2.2.2.1 = 5 ∨ x.2.2.2.1 = 6) ∧ x.2.2.2.2.1.length < 2305843009213693952 ∧ x.2.2.2.2.2.length < 2305843009213693952) fun n_15 => .all (fun (r : List UInt8 × Int) => r = stp n_15.2.2.1 (arR n_15.2.2.2.1) n_15.2.2.2.2.1 n_15.2.2.2.2.2) fun n_16 => .leaf (.ret [.str n_14.1, .str n_16.1] [.box [.int .i64 n_15.1.n, .sl n_15.1.ops.length 4 (opG n_15.1.ops), .sl n_15.2.1.length 1 (ratG n_15.2.1), .int .i64 n_16.2], .box [.str h], .box [.int .i64 i], .box [.int .i64 k], Blk.arrI .i64 n.2.2.2.2.length (dgF n.2.2.2.2), Blk.arrI .i64 n_7.2.2.2.2.length (dgF n_7.2.2.2.2), Blk.arrI .i64 n_5.2.2.2.2.length (dgF n_5.2.2.2.2)]))) (.all (fun (x : Bool) => True) fun n_3 => .ite n_3 (.all (fun (x : Bool) => True) fun n_4 => .ite n_4 (.ex (fun (x : Tp × List (List UInt8) × Int × List UInt8 × List Int) => eqL [AV.ptr 0 0, AV.str h, AV.osl 1 1 0 2] [AV.ptr 0 0, AV.str x.2.2.2.1, AV.osl 1 1 0 x.2.2.2.2.length] ∧ eqH [.box [AV.int .i64 n, AV.sl ops.length 4 (opG ops), AV.sl inp.length 1 (ratG inp), AV.int .i64 0], .arr 2 1 (zf 1 [AV.int .i64 i, AV.int .i64 k])] [.box [AV.int .i64 x.1.n, AV.sl x.1.ops.length 4 (opG x.1.ops), AV.sl x.2.1.length 1 (ratG x.2.1), AV.int .i64 x.2.2.1], Blk.arrI .i64 x.2.2.2.2.length (dgF x.2.2.2.2)] ∧ 2 = 2 ∧ zh x.1 = 0 ∧ (↑x.2.1.length : Int) = Tp.n x.1 ∧ allQ x.2.1 ∧ errR x.2.2.2.1 = 0 ∧ (∀ (i : Int), i ∈ x.2.2.2.2 → (0 : Int) ≤ i ∧ i < Tp.n x.1) ∧ x.2.2.2.2.length < 1099511627776) fun n => .all (fun (r : List UInt8 × Int) => r = stpA n.2.2.1 (atT n.1 n.2.1 n.2.2.2.1 n.2.2.2.2)) fun n_5 => .all (fun (x : Bool) => True) fun n_6 => .ite n_6 (.ex (fun (x : Tp × List (List UInt8) × Int × List UInt8 × List Int) => eqL [AV.ptr 0 0, AV.str h, AV.osl 1 1 0 1] [AV.ptr 0 0, AV.str x.2.2.2.1, AV.osl 1 1 0 x.2.2.2.2.length] ∧ eqH [.box [AV.int .i64 n.1.n, AV.sl n.1.ops.length 4 (opG n.1.ops), AV.sl n.2.1.length 1 (ratG n.2.1), AV.int .i64 n_5.2], .arr 1 1 (zf 1 [AV.int .i64 i])] [.box [AV.int .i64 x.1.n, AV.sl x.1.ops.length 4 (opG x.1.ops), AV.sl x.2.1.length 1 (ratG x.2.1), AV.int .i64 x.2.2.1], Blk.arrI .i64 x.2.2.2.2.length (dgF x.2.2.2.2)] ∧ 2 = 2 ∧ zh x.1 = 0 ∧ (↑x.2.1.length : Int) = Tp.n x.1 ∧ allQ x.2.1 ∧ errR x.2.2.2.1 = 0 ∧ (∀ (i : Int), i ∈ x.2.2.2.2 → (0 : Int) ≤ i ∧ i < Tp.n x.1) ∧ x.2.2.2.2.length < 1099511627776) fun n_7 => .all (fun (r : List UInt8 × Int) => r = stpA n_7.2.2.1 (atT n_7.1 n_7.2.1 n_7.2.2.2.1 n_7.2.2.2.2)) fun n_8 => .ex (fun (x : Tp × List (List UInt8) × Int × List UInt8 × List Int) => eqL [AV.ptr 0 0, AV.str h, AV.osl 1 1 0 1] [AV.ptr 0 0, AV.str x.2.2.2.1, AV.osl 1 1 0 x.2.2.2.2.length] ∧ eqH [.box [AV.int .i64 n_7.1.n, AV.sl n_7.1.ops.length 4 (opG n_7.1.ops), AV.sl n_7.2.1.length 1 (ratG n_7.2.1), AV.int .i64 n_8.2], .arr 1 1 (zf 1 [AV.int .i64 k])] [.box [AV.int .i64 x.1.n, AV.sl x.1.ops.length 4 (opG x.1.ops), AV.sl x.2.1.length 1 (ratG x.2.1), AV.int .i64 x.2.2.1], Blk.arrI .i64 x.2.2.2.2.length (dgF x.2.2.2.2)] ∧ 2 = 2 ∧ zh x.1 = 0 ∧ (↑x.2.1.length : Int) = Tp.n x.1 ∧ allQ x.2.1 ∧ errR x.2.2.2.1 = 0 ∧ (∀ (i : Int), i ∈ x.2.2.2.2 → (0 : Int) ≤ i ∧ i < Tp.n x.1) ∧ x.2.2.2.2.length < 1099511627776) fun n_9 => .all (fun (r : List UInt8 × Int) => r = stpA n_9.2.2.1 (atT n_9.1 n_9.2.1 n_9.2.2.2.1 n_9.2.2.2.2)) fun n_10 => .ex (fun (x : Tp × List (List UInt8) × Int × Int × List UInt8 × List UInt8) => eqL [AV.ptr 0 0, AV.fn 17 [] [], AV.str n_5.1, AV.str n_8.1] [AV.ptr 0 0, AV.fn (opN x.2.2.2.1) [] [], AV.str x.2.2.2.2.1, AV.str x.2.2.2.2.2] ∧ eqH [.box [AV.int .i64 n_9.1.n, AV.sl n_9.1.ops.length 4 (opG n_9.1.ops), AV.sl n_9.2.1.length 1 (ratG n_9.2.1), AV.int .i64 n_10.2]] [.box [AV.int .i64 x.1.n, AV.sl x.1.ops.length 4 (opG x.1.ops), AV.sl x.2.1.length 1 (ratG x.2.1), AV.int .i64 x.2.2.1]] ∧ 1 = 1 ∧ (x.2.2.2.1 = 3 ∨ x.2.2.2.1 = 4 ∨ x.2.2.2.1 = 5 ∨ x.2.2.2.1 = 6) ∧ x.2.2.2.2.1.length < 2305843009213693952 ∧ x.2.2.2.2.2.length < 2305843009213693952) fun n_11 => .all (fun (r : List UInt8 × Int) => r = stp n_11.2.2.1 (arR n_11.2.2.2.1) n_11.2.2.2.2.1 n_11.2.2.2.2.2) fun n_12 => .ex (fun (x : Tp × List (List UInt8) × Int × Int × List UInt8 × List UInt8) => eqL [AV.ptr 0 0, AV.fn 17 [] [], AV.str n_12.1, AV.str n_10.1] [AV.ptr 0 0, AV.fn (opN x.2.2.2.1) [] [], AV.str x.2.2.2.2.1, AV.str x.2.2.2.2.2] ∧ eqH [.box [AV.int .i64 n_11.1.n, AV.sl n_11.1.ops.length 4 (opG n_11.1.ops), AV.sl n_11.2.1.length 1 (ratG n_11.2.1), AV.int .i64 n_12.2]] [.box [AV.int .i64 x.1.n, AV.sl x.1.ops.length 4 (opG x.1.ops), AV.sl x.2.1.length 1 (ratG x.2.1), AV.int .i64 x.2.2.1]] ∧ 1 = 1 ∧ (x.2.2.2.1 = 3 ∨ x.2.2.2.1 = 4 ∨ x.2.2.2.1 = 5 ∨ x.2.2.2.1 = 6) ∧ x.2.2.2.2.1.length < 2305843009213693952 ∧ x.2.2.2.2.2.length < 2305843009213693952) fun n_13 => .all (fun (r : List UInt8 × Int) => r = stp n_13.2.2.1 (arR n_13.2.2.2.1) n_13.2.2.2.2.1 n_13.2.2.2.2.2) fun n_14 => .ex (fun (x : Tp × List (List UInt8) × Int × Int × List UInt8 × List UInt8) => eqL [AV.ptr 0 0, AV.fn 24 [] [], AV.str n_14.1, AV.str v] [AV.ptr 0 0, AV.fn (opN x.2.2.2.1) [] [], AV.str x.2.2.2.2.1, AV.str x.2.2.2.2.2] ∧ eqH [.box [AV.int .i64 n_13.1.n, AV.sl n_13.1.ops.length 4 (opG n_13.1.ops), AV.sl n_13.2.1.length 1 (ratG n_13.2.1), AV.int .i64 n_14.2]] [.box [AV.int .i64 x.1.n, AV.sl x.1.ops.length 4 (opG x.1.ops), AV.sl x.2.1.length 1 (ratG x.2.1), AV.int .i64 x.2.2.1]] ∧ 1 = 1 ∧ (x.2.2.2.1 = 3 ∨ x.2.2.2.1 = 4 ∨ x.2.2.2.1 = 5 ∨ x.2.2.2.1 = 6) ∧ x.2.2.2.2.1.length < 2305843009213693952 ∧ x.2.2.2.2.2.length < 2305843009213693952) fun n_15 => .all (fun (r : List UInt8 × Int) => r = stp n_15.2.2.1 (arR n_15.2.2.2.1) n_15.2.2.2.2.1 n_15.2.2.2.2.2) fun n_16 => .ex (fun (x : Tp × List (List UInt8) × Int × Int × List UInt8 × List UInt8) => eqL [AV.ptr 0 0, AV.fn 27 [] [], AV.str h, AV.str h] [AV.ptr 0 0, AV.fn (opN x.2.2.2.1) [] [], AV.str x.2.2.2.2.1, AV.str x.2.2.2.2.2] ∧ eqH [.box [AV.int .i64 n_15.1.n, AV.sl n_15.1.ops.length 4 (opG n_15.1.ops), AV.sl n_15.2.1.length 1 (ratG n_15.2.1), AV.int .i64 n_16.2]] [.box [AV.int .i64 x.1.n, AV.sl x.1.ops.length 4 (opG x.1.ops), AV.sl x.2.1.length 1 (ratG x.2.1), AV.int .i64 x.2.2.1]] ∧ 1 = 1 ∧ (x.2.2.2.1 = 3 ∨ x.2.2.2.1 = 4 ∨ x.2.2.2.1 = 5 ∨ x.2.2.2.1 = 6) ∧ x.2.2.2.2.1.length < 2305843009213693952 ∧ x.2.2.2.2.2.length < 2305843009213693952) fun n_17 => .all (fun (r : List UInt8 × Int) => r = stp n_17.2.2.1 (arR n_17.2.2.2.1) n_17.2.2.2.2.1 n_17.2.2.2.2.2) fun n_18 => .leaf (.ret [.str n_16.1, .str n_18.1] [.box [.int .i64 n_17.1.n, .sl n_17.1.ops.length 4 (opG n_17.1.ops), .sl n_17.2.1.length 1 (ratG n_17.2.1), .int .i64 n_18.2], .box [.str h], .box [.int .i64 i], .box [.int .i64 k], Blk.arrI .i64 n.2.2.2.2.length (dgF n.2.2.2.2), Blk.arrI .i64 n_7.2.2.2.2.length (dgF n_7.2.2.2.2), Blk.arrI .i64 n_9.2.2.2.2.length (dgF n_9.2.2.2.2)])) (.ex (fun (x : Tp × List (List UInt8) × Int × List UInt8 × List Int) => eqL [AV.ptr 0 0, AV.str h, AV.osl 1 1 0 1] [AV.ptr 0 0, AV.str x.2.2.2.1, AV.osl 1 1 0 x.2.2.2.2.length] ∧ eqH [.box [AV.int .i64 n.1.n, AV.sl n.1.ops.length 4 (opG n.1.ops), AV.sl n.2.1.length 1 (ratG n.2.1), AV.int .i64 n_5.2], .arr 1 1 (zf 1 [AV.int .i64 i])] [.box [AV.int .i64 x.1.n, AV.sl x.1.ops.length 4 (opG x.1.ops), AV.sl x.2.1.length 1 (ratG x.2.1), AV.int .i64 x.2.2.1], Blk.arrI .i64 x.2.2.2.2.length (dgF x.2.2.2.2)] ∧ 2 = 2 ∧ zh x.1 = 0 ∧ (↑x.2.1.length : Int) = Tp.n x.1 ∧ allQ x.2.1 ∧ errR x.2.2.2.1 = 0 ∧ (∀ (i : Int), i ∈ x.2.2.2.2 → (0 : Int) ≤ i ∧ i < Tp.n x.1) ∧ x.2.2.2.2.length < 1099511627776) fun n_7 => .all (fun (r : List UInt8 × Int) => r = stpA n_7.2.2.1 (atT n_7.1 n_7.2.1 n_7.2.2.2.1 n_7.2.2.2.2)) fun n_8 => .ex (fun (x : Tp × List (List UInt8) × Int × List UInt8 × List Int) => eqL [AV.ptr 0 0, AV.str h, AV.osl 1 1 0 1] [AV.ptr 0 0, AV.str x.2.2.2.1, AV.osl 1 1 0 x.2.2.2.2.length] ∧ eqH [.box [AV.int .i64 n_7.1.n, AV.sl n_7.1.ops.length 4 (opG n_7.1.ops), AV.sl n_7.2.1.length 1 (ratG n_7.2.1), AV.int .i64 n_8.2], .arr 1 1 (zf 1 [AV.int .i64 k])] [.box [AV.int .i64 x.1.n, AV.sl x.1.ops.length 4 (opG x.1.ops), AV.sl x.2.1.length 1 (ratG x.2.1), AV.int .i64 x.2.2.1], Blk.arrI .i64 x.2.2.2.2.length (dgF x.2.2.2.2)] ∧ 2 = 2 ∧ zh x.1 = 0 ∧ (↑x.2.1.length : Int) = Tp.n x.1 ∧ allQ x.2.1 ∧ errR x.2.2.2.1 = 0 ∧ (∀ (i : Int), i ∈ x.2.2.2.2 → (0 : Int) ≤ i ∧ i < Tp.n x.1) ∧ x.2.2.2.2.length < 1099511627776) fun n_9 => .all (fun (r : List UInt8 × Int) => r = stpA n_9.2.2.1 (atT n_9.1 n_9.2.1 n_9.2.2.2.1 n_9.2.2.2.2)) fun n_10 => .ex (fun (x : Tp × List (List UInt8) × Int × Int × List UInt8 × List UInt8) => eqL [AV.ptr 0 0, AV.fn 17 [] [], AV.str n_5.1, AV.str n_8.1] [AV.ptr 0 0, AV.fn (opN x.2.2.2.1) [] [], AV.str x.2.2.2.2.1, AV.str x.2.2.2.2.2] ∧ eqH [.box [AV.int .i64 n_9.1.n, AV.sl n_9.1.ops.length 4 (opG n_9.1.ops), AV.sl n_9.2.1.length 1 (ratG n_9.2.1), AV.int .i64 n_10.2]] [.box [AV.int .i64 x.1.n, AV.sl x.1.ops.length 4 (opG x.1.ops), AV.sl x.2.1.length 1 (ratG x.2.1), AV.int .i64 x.2.2.1]] ∧ 1 = 1 ∧ (x.2.2.2.1 = 3 ∨ x.2.2.2.1 = 4 ∨ x.2.2.2.1 = 5 ∨ x.2.2.2.1 = 6) ∧ x.2.2.2.2.1.length < 2305843009213693952 ∧ x.2.2.2.2.2.length < 2305843009213693952) fun n_11 => .all (fun (r : List UInt8 × Int) => r = stp n_11.2.2.1 (arR n_11.2.2.2.1) n_11.2.2.2.2.1 n_11.2.2.2.2.2) fun n_12 => .ex (fun (x : Tp × List (List UInt8) × Int × Int × List UInt8 × List UInt8) => eqL [AV.ptr 0 0, AV.fn 17 [] [], AV.str n_12.1, AV.str n_10.1] [AV.ptr 0 0, AV.fn (opN x.2.2.2.1) [] [], AV.str x.2.2.2.2.1, AV.str x.2.2.2.2.2] ∧ eqH [.box [AV.int .i64 n_11.1.n, AV.sl n_11.1.ops.length 4 (opG n_11.1.ops), AV.sl n_11.2.1.length 1 (ratG n_11.2.1), AV.int .i64 n_12.2]] [.box [AV.int .i64 x.1.n, AV.sl x.1.ops.length 4 (opG x.1.ops), AV.sl x.2.1.length 1 (ratG x.2.1), AV.int .i64 x.2.2.1]] ∧ 1 = 1 ∧ (x.2.2.2.1 = 3 ∨ x.2.2.2.1 = 4 ∨ x.2.2.2.1 = 5 ∨ x.2.2.2.1 = 6) ∧ x.2.2.2.2.1.length < 2305843009213693952 ∧ x.2.2.2.2.2.length < 2305843009213693952) fun n_13 => .all (fun (r : List UInt8 × Int) => r = stp n_13.2.2.1 (arR n_13.2.2.2.1) n_13.2.2.2.2.1 n_13.2.2.2.2.2) fun n_14 => .ex (fun (x : Tp × List (List UInt8) × Int × Int × List UInt8 × List UInt8) => eqL [AV.ptr 0 0, AV.fn 24 [] [], AV.str n_14.1, AV.str v] [AV.ptr 0 0, AV.fn (opN x.2.2.2.1) [] [], AV.str x.2.2.2.2.1, AV.str x.2.2.2.2.2] ∧ eqH [.box [AV.int .i64 n_13.1.n, AV.sl n_13.1.ops.length 4 (opG n_13.1.ops), AV.sl n_13.2.1.length 1 (ratG n_13.2.1), AV.int .i64 n_14.2]] [.box [AV.int .i64 x.1.n, AV.sl x.1.ops.length 4 (opG x.1.ops), AV.sl x.2.1.length 1 (ratG x.2.1), AV.int .i64 x.2.2.1]] ∧ 1 = 1 ∧ (x.2.2.2.1 = 3 ∨ x.2.2.2.1 = 4 ∨ x.2.2.2.1 = 5 ∨ x.2.2.2.1 = 6) ∧ x.2.2.2.2.1.length < 2305843009213693952 ∧ x.2.2.2.2.2.length < 2305843009213693952) fun n_15 => .all (fun (r : List UInt8 × Int) => r = stp n_15.2.2.1 (arR n_15.2.2.2.1) n_15.2.2.2.2.1 n_15.2.2.2.2.2) fun n_16 => .ex (fun (x : Tp × List (List UInt8) × Int × Int × List UInt8 × List UInt8) => eqL [AV.ptr 0 0, AV.fn 27 [] [], AV.str h, AV.str h] [AV.ptr 0 0, AV.fn (opN x.2.2.2.1) [] [], AV.str x.2.2.2.2.1, AV.str x.2.2.2.2.2] ∧ eqH [.box [AV.int .i64 n_15.1.n, AV.sl n_15.1.ops.length 4 (opG n_15.1.ops), AV.sl n_15.2.1.length 1 (ratG n_15.2.1), AV.int .i64 n_16.2]] [.box [AV.int .i64 x.1.n, AV.sl x.1.ops.length 4 (opG x.1.ops), AV.sl x.2.1.length 1 (ratG x.2.1), AV.int .i64 x.2.2.1]] ∧ 1 = 1 ∧ (x.2.2.2.1 = 3 ∨ x.2.2.2.1 = 4 ∨ x.2.2.2.1 = 5 ∨ x.2.2.2.1 = 6) ∧ x.2.2.2.2.1.length < 2305843009213693952 ∧ x.2.2.2.2.2.length < 2305843009213693952) fun n_17 => .all (fun (r : List UInt8 × Int) => r = stp n_17.2.2.1 (arR n_17.2.2.2.1) n_17.2.2.2.2.1 n_17.2.2.2.2.2) fun n_18 => .leaf (.ret [.str n_16.1, .str n_18.1] [.box [.int .i64 n_17.1.n, .sl n_17.1.ops.length 4 (opG n_17.1.ops), .sl n_17.2.1.length 1 (ratG n_17.2.1), .int .i64 n_18.2], .box [.str h], .box [.int .i64 i], .box [.int .i64 k], Blk.arrI .i64 n.2.2.2.2.length (dgF n.2.2.2.2), Blk.arrI .i64 n_7.2.2.2.2.length (dgF n_7.2.2.2.2), Blk.arrI .i64 n_9.2.2.2.2.length (dgF n_9.2.2.2.2)]))) (.ex (fun (x : Tp × List (List UInt8) × Int × List UInt8 × List Int) => eqL [AV.ptr 0 0, AV.str h, AV.osl 1 1 0 2] [AV.ptr 0 0, AV.str x.2.2.2.1, AV.osl 1 1 0 x.2.2.2.2.length] ∧ eqH [.box [AV.int .i64 n, AV.sl ops.length 4 (opG ops), AV.sl inp.length 1 (ratG inp), AV.int .i64 0], .arr 2 1 (zf 1 [AV.int .i64 i, AV.int .i64 k])] [.box [AV.int .i64 x.1.n, AV.sl x.1.ops.length 4 (opG x.1.ops), AV.sl x.2.1.length 1 (ratG x.2.1), AV.int .i64 x.2.2.1], Blk.arrI .i64 x.2.2.2.2.length (dgF x.2.2.2.2)] ∧ 2 = 2 ∧ zh x.1 = 0 ∧ (↑x.2.1.length : Int) = Tp.n x.1 ∧ allQ x.2.1 ∧ errR x.2.2.2.1 = 0 ∧ (∀ (i : Int), i ∈ x.2.2.2.2 → (0 : Int) ≤ i ∧ i < Tp.n x.1) ∧ x.2.2.2.2.length < 1099511627776) fun n => .all (fun (r : List UInt8 × Int) => r = stpA n.2.2.1 (atT n.1 n.2.1 n.2.2.2.1 n.2.2.2.2)) fun n_5 => .ex (fun (x : Tp × List (List UInt8) × Int × List UInt8 × List Int) => eqL [AV.ptr 0 0, AV.str h, AV.osl 1 1 0 1] [AV.ptr 0 0, AV.str x.2.2.2.1, AV.osl 1 1 0 x.2.2.2.2.length] ∧ eqH [.box [AV.int .i64 n.1.n, AV.sl n.1.ops.length 4 (opG n.1.ops), AV.sl n.2.1.length 1 (ratG n.2.1), AV.int .i64 n_5.2], .arr 1 1 (zf 1 [AV.int .i64 i])] [.box [AV.int .i64 x.1.n, AV.sl x.1.ops.length 4 (opG x.1.ops), AV.sl x.2.1.length 1 (ratG x.2.1), AV.int .i64 x.2.2.1], Blk.arrI .i64 x.2.2.2.2.length (dgF x.2.2.2.2)] ∧ 2 = 2 ∧ zh x.1 = 0 ∧ (↑x.2.1.length : Int) = Tp.n x.1 ∧ allQ x.2.1 ∧ errR x.2.2.2.1 = 0 ∧ (∀ (i : Int), i ∈ x.2.2.2.2 → (0 : Int) ≤ i ∧ i < Tp.n x.1) ∧ x.2.2.2.2.length < 1099511627776) fun n_6 => .all (fun (r : List UInt8 × Int) => r = stpA n_6.2.2.1 (atT n_6.1 n_6.2.1 n_6.2.2.2.1 n_6.2.2.2.2)) fun n_7 => .ex (fun (x : Tp × List (List UInt8) × Int × List UInt8 × List Int) => eqL [AV.ptr 0 0, AV.str h, AV.osl 1 1 0 1] [AV.ptr 0 0, AV.str x.2.2.2.1, AV.osl 1 1 0 x.2.2.2.2.length] ∧ eqH [.box [AV.int .i64 n_6.1.n, AV.sl n_6.1.ops.length 4 (opG n_6.1.ops), AV.sl n_6.2.1.length 1 (ratG n_6.2.1), AV.int .i64 n_7.2], .arr 1 1 (zf 1 [AV.int .i64 k])] [.box [AV.int .i64 x.1.n, AV.sl x.1.ops.length 4 (opG x.1.ops), AV.sl x.2.1.length 1 (ratG x.2.1), AV.int .i64 x.2.2.1], Blk.arrI .i64 x.2.2.2.2.length (dgF x.2.2.2.2)] ∧ 2 = 2 ∧ zh x.1 = 0 ∧ (↑x.2.1.length : Int) = Tp.n x.1 ∧ allQ x.2.1 ∧ errR x.2.2.2.1 = 0 ∧ (∀ (i : Int), i ∈ x.2.2.2.2 → (0 : Int) ≤ i ∧ i < Tp.n x.1) ∧ x.2.2.2.2.length < 1099511627776) fun n_8 => .all (fun (r : List UInt8 × Int) => r = stpA n_8.2.2.1 (atT n_8.1 n_8.2.1 n_8.2.2.2.1 n_8.2.2.2.2)) fun n_9 => .ex (fun (x : Tp × List (List UInt8) × Int × Int × List UInt8 × List UInt8) => eqL [AV.ptr 0 0, AV.fn 17 [] [], AV.str n_5.1, AV.str n_7.1] [AV.ptr 0 0, AV.fn (opN x.2.2.2.1) [] [], AV.str x.2.2.2.2.1, AV.str x.2.2.2.2.2] ∧ eqH [.box [AV.int .i64 n_8.1.n, AV.sl n_8.1.ops.length 4 (opG n_8.1.ops), AV.sl n_8.2.1.length 1 (ratG n_8.2.1), AV.int .i64 n_9.2]] [.box [AV.int .i64 x.1.n, AV.sl x.1.ops.length 4 (opG x.1.ops), AV.sl x.2.1.length 1 (ratG x.2.1), AV.int .i64 x.2.2.1]] ∧ 1 = 1 ∧ (x.2.2.2.1 = 3 ∨ x.2.2.2.1 = 4 ∨ x.2.2.2.1 = 5 ∨ x.2.2.2.1 = 6) ∧ x.2.2.2.2.1.length < 2305843009213693952 ∧ x.2.2.2.2.2.length < 2305843009213693952) fun n_10 => .all (fun (r : List UInt8 × Int) => r = stp n_10.2.2.1 (arR n_10.2.2.2.1) n_10.2.2.2.2.1 n_10.2.2.2.2.2) fun n_11 => .ex (fun (x : Tp × List (List UInt8) × Int × Int × List UInt8 × List UInt8) => eqL [AV.ptr 0 0, AV.fn 17 [] [], AV.str n_11.1, AV.str n_9.1] [AV.ptr 0 0, AV.fn (opN x.2.2.2.1) [] [], AV.str x.2.2.2.2.1, AV.str x.2.2.2.2.2] ∧ eqH [.box [AV.int .i64 n_10.1.n, AV.sl n_10.1.ops.length 4 (opG n_10.1.ops), AV.sl n_10.2.1.length 1 (ratG n_10.2.1), AV.int .i64 n_11.2]] [.box [AV.int .i64 x.1.n, AV.sl x.1.ops.length 4 (opG x.1.ops), AV.sl x.2.1.length 1 (ratG x.2.1), AV.int .i64 x.2.2.1]] ∧ 1 = 1 ∧ (x.2.2.2.1 = 3 ∨ x.2.2.2.1 = 4 ∨ x.2.2.2.1 = 5 ∨ x.2.2.2.1 = 6) ∧ x.2.2.2.2.1.length < 2305843009213693952 ∧ x.2.2.2.2.2.length < 2305843009213693952) fun n_12 => .all (fun (r : List UInt8 × Int) => r = stp n_12.2.2.1 (arR n_12.2.2.2.1) n_12.2.2.2.2.1 n_12.2.2.2.2.2) fun n_13 => .ex (fun (x : Tp × List (List UInt8) × Int × Int × List UInt8 × List UInt8) => eqL [AV.ptr 0 0, AV.fn 24 [] [], AV.str n_13.1, AV.str v] [AV.ptr 0 0, AV.fn (opN x.2.2.2.1) [] [], AV.str x.2.2.2.2.1, AV.str x.2.2.2.2.2] ∧ eqH [.box [AV.int .i64 n_12.1.n, AV.sl n_12.1.ops.length 4 (opG n_12.1.ops), AV.sl n_12.2.1.length 1 (ratG n_12.2.1), AV.int .i64 n_13.2]] [.box [AV.int .i64 x.1.n, AV.sl x.1.ops.length 4 (opG x.1.ops), AV.sl x.2.1.length 1 (ratG x.2.1), AV.int .i64 x.2.2.1]] ∧ 1 = 1 ∧ (x.2.2.2.1 = 3 ∨ x.2.2.2.1 = 4 ∨ x.2.2.2.1 = 5 ∨ x.2.2.2.1 = 6) ∧ x.2.2.2.2.1.length < 2305843009213693952 ∧ x.2.2.2.2.2.length < 2305843009213693952) fun n_14 => .all (fun (r : List UInt8 × Int) => r = stp n_14.2.2.1 (arR n_14.2.2.2.1) n_14.2.2.2.2.1 n_14.2.2.2.2.2) fun n_15 => .ex (fun (x : Tp × List (List UInt8) × Int × Int × List UInt8 × List UInt8) => eqL [AV.ptr 0 0, AV.fn 27 [] [], AV.str h, AV.str h] [AV.ptr 0 0, AV.fn (opN x.2.2.2.1) [] [], AV.str x.2.2.2.2.1, AV.str x.2.2.2.2.2] ∧ eqH [.box [AV.int .i64 n_14.1.n, AV.sl n_14.1.ops.length 4 (opG n_14.1.ops), AV.sl n_14.2.1.length 1 (ratG n_14.2.1), AV.int .i64 n_15.2]] [.box [AV.int .i64 x.1.n, AV.sl x.1.ops.length 4 (opG x.1.ops), AV.sl x.2.1.length 1 (ratG x.2.1), AV.int .i64 x.2.2.1]] ∧ 1 = 1 ∧ (x.2.2.2.1 = 3 ∨ x.2.2.2.1 = 4 ∨ x.2.2.2.1 = 5 ∨ x.2.2.2.1 = 6) ∧ x.2.2.2.2.1.length < 2305843009213693952 ∧ x.2.2.2.2.2.length < 2305843009213693952) fun n_16 => .all (fun (r : List UInt8 × Int) => r = stp n_16.2.2.1 (arR n_16.2.2.2.1) n_16.2.2.2.2.1 n_16.2.2.2.2.2) fun n_17 => .leaf (.ret [.str n_15.1, .str n_17.1] [.box [.int .i64 n_16.1.n, .sl n_16.1.ops.length 4 (opG n_16.1.ops), .sl n_16.2.1.length 1 (ratG n_16.2.1), .int .i64 n_17.2], .box [.str h], .box [.int .i64 i], .box [.int .i64 k], Blk.arrI .i64 n.2.2.2.2.length (dgF n.2.2.2.2), Blk.arrI .i64 n_6.2.2.2.2.length (dgF n_6.2.2.2.2), Blk.arrI .i64 n_8.2.2.2.2.length (dgF n_8.2.2.2.2)]))) (.all (fun (x : Bool) => True) fun n_4 => .ite n_4 (.ex (fun (x : Tp × List (List UInt8) × Int × List UInt8 × List Int) => eqL [AV.ptr 0 0, AV.str h, AV.osl 1 1 0 2] [AV.ptr 0 0, AV.str x.2.2.2.1, AV.osl 1 1 0 x.2.2.2.2.length] ∧ eqH [.box [AV.int .i64 n, AV.sl ops.length 4 (opG ops), AV.sl inp.length 1 (ratG inp), AV.int .i64 0], .arr 2 1 (zf 1 [AV.int .i64 i, AV.int .i64 k])] [.box [AV.int .i64 x.1.n, AV.sl x.1.ops.length 4 (opG x.1.ops), AV.sl x.2.1.length 1 (ratG x.2.1), AV.int .i64 x.2.2.1], Blk.arrI .i64 x.2.2.2.2.length (dgF x.2.2.2.2)] ∧ 2 = 2 ∧ zh x.1 = 0 ∧ (↑x.2.1.length : Int) = Tp.n x.1 ∧ allQ x.2.1 ∧ errR x.2.2.2.1 = 0 ∧ (∀ (i : Int), i ∈ x.2.2.2.2 → (0 : Int) ≤ i ∧ i < Tp.n x.1) ∧ x.2.2.2.2.length < 1099511627776) fun n => .all (fun (r : List UInt8 × Int) => r = stpA n.2.2.1 (atT n.1 n.2.1 n.2.2.2.1 n.2.2.2.2)) fun n_5 => .ex (fun (x : Tp × List (List UInt8) × Int × List UInt8 × List Int) => eqL [AV.ptr 0 0, AV.str h, AV.osl 1 1 0 1] [AV.ptr 0 0, AV.str x.2.2.2.1, AV.osl 1 1 0 x.2.2.2.2.length] ∧ eqH [.box [AV.int .i64 n.1.n, AV.sl n.1.ops.length 4 (opG n.1.ops), AV.sl n.2.1.length 1 (ratG n.2.1), AV.int .i64 n_5.2], .arr 1 1 (zf 1 [AV.int .i64 i])] [.box [AV.int .i64 x.1.n, AV.sl x.1.ops.length 4 (opG x.1.ops), AV.sl x.2.1.length 1 (ratG x.2.1), AV.int .i64 x.2.2.1], Blk.arrI .i64 x.2.2.2.2.length (dgF x.2.2.2.2)] ∧ 2 = 2 ∧ zh x.1 = 0 ∧ (↑x.2.1.length : Int) = Tp.n x.1 ∧ allQ x.2.1 ∧ errR x.2.2.2.1 = 0 ∧ (∀ (i : Int), i ∈ x.2.2.2.2 → (0 : Int) ≤ i ∧ i < Tp.n x.1) ∧ x.2.2.2.2.length < 1099511627776) fun n_6 => .all (fun (r : List UInt8 × Int) => r = stpA n_6.2.2.1 (atT n_6.1 n_6.2.1 n_6.2.2.2.1 n_6.2.2.2.2)) fun n_7 => .ex (fun (x : Tp × List (List UInt8) × Int × List UInt8 × List Int) => eqL [AV.ptr 0 0, AV.str h, AV.osl 1 1 0 1] [AV.ptr 0 0, AV.str x.2.2.2.1, AV.osl 1 1 0 x.2.2.2.2.length] ∧ eqH [.box [AV.int .i64 n_6.1.n, AV.sl n_6.1.ops.length 4 (opG n_6.1.ops), AV.sl n_6.2.1.length 1 (ratG n_6.2.1), AV.int .i64 n_7.2], .arr 1 1 (zf 1 [AV.int .i64 k])] [.box [AV.int .i64 x.1.n, AV.sl x.1.ops.length 4 (opG x.1.ops), AV.sl x.2.1.length 1 (ratG x.2.1), AV.int .i64 x.2.2.1], Blk.arrI .i64 x.2.2.2.2.length (dgF x.2.2.2.2)] ∧ 2 = 2 ∧ zh x.1 = 0 ∧ (↑x.2.1.length : Int) = Tp.n x.1 ∧ allQ x.2.1 ∧ errR x.2.2.2.1 = 0 ∧ (∀ (i : Int), i ∈ x.2.2.2.2 → (0 : Int) ≤ i ∧ i < Tp.n x.1) ∧ x.2.2.2.2.length < 1099511627776) fun n_8 => .all (fun (r : List UInt8 × Int) => r = stpA n_8.2.2.1 (atT n_8.1 n_8.2.1 n_8.2.2.2.1 n_8.2.2.2.2)) fun n_9 => .ex (fun (x : Tp × List (List UInt8) × Int × Int × List UInt8 × List UInt8) => eqL [AV.ptr 0 0, AV.fn 17 [] [], AV.str n_5.1, AV.str n_7.1] [AV.ptr 0 0, AV.fn (opN x.2.2.2.1) [] [], AV.str x.2.2.2.2.1, AV.str x.2.2.2.2.2] ∧ eqH [.box [AV.int .i64 n_8.1.n, AV.sl n_8.1.ops.length 4 (opG n_8.1.ops), AV.sl n_8.2.1.length 1 (ratG n_8.2.1), AV.int .i64 n_9.2]] [.box [AV.int .i64 x.1.n, AV.sl x.1.ops.length 4 (opG x.1.ops), AV.sl x.2.1.length 1 (ratG x.2.1), AV.int .i64 x.2.2.1]] ∧ 1 = 1 ∧ (x.2.2.2.1 = 3 ∨ x.2.2.2.1 = 4 ∨ x.2.2.2.1 = 5 ∨ x.2.2.2.1 = 6) ∧ x.2.2.2.2.1.length < 2305843009213693952 ∧ x.2.2.2.2.2.length < 2305843009213693952) fun n_10 => .all (fun (r : List UInt8 × Int) => r = stp n_10.2.2.1 (arR n_10.2.2.2.1) n_10.2.2.2.2.1 n_10.2.2.2.2.2) fun n_11 => .ex (fun (x : Tp × List (List UInt8) × Int × Int × List UInt8 × List UInt8) => eqL [AV.ptr 0 0, AV.fn 17 [] [], AV.str n_11.1, AV.str n_9.1] [AV.ptr 0 0, AV.fn (opN x.2.2.2.1) [] [], AV.str x.2.2.2.2.1, AV.str x.2.2.2.2.2] ∧ eqH [.box [AV.int .i64 n_10.1.n, AV.sl n_10.1.ops.length 4 (opG n_10.1.ops), AV.sl n_10.2.1.length 1 (ratG n_10.2.1), AV.int .i64 n_11.2]] [.box [AV.int .i64 x.1.n, AV.sl x.1.ops.length 4 (opG x.1.ops), AV.sl x.2.1.length 1 (ratG x.2.1), AV.int .i64 x.2.2.1]] ∧ 1 = 1 ∧ (x.2.2.2.1 = 3 ∨ x.2.2.2.1 = 4 ∨ x.2.2.2.1 = 5 ∨ x.2.2.2.1 = 6) ∧ x.2.2.2.2.1.length < 2305843009213693952 ∧ x.2.2.2.2.2.length < 2305843009213693952) fun n_12 => .all (fun (r : List UInt8 × Int) => r = stp n_12.2.2.1 (arR n_12.2.2.2.1) n_12.2.2.2.2.1 n_12.2.2.2.2.2) fun n_13 => .ex (fun (x : Tp × List (List UInt8) × Int × Int × List UInt8 × List UInt8) => eqL [AV.ptr 0 0, AV.fn 24 [] [], AV.str n_13.1, AV.str v] [AV.ptr 0 0, AV.fn (opN x.2.2.2.1) [] [], AV.str x.2.2.2.2.1, AV.str x.2.2.2.2.2] ∧ eqH [.box [AV.int .i64 n_12.1.n, AV.sl n_12.1.ops.length 4 (opG n_12.1.ops), AV.sl n_12.2.1.length 1 (ratG n_12.2.1), AV.int .i64 n_13.2]] [.box [AV.int .i64 x.1.n, AV.sl x.1.ops.length 4 (opG x.1.ops), AV.sl x.2.1.length 1 (ratG x.2.1), AV.int .i64 x.2.2.1]] ∧ 1 = 1 ∧ (x.2.2.2.1 = 3 ∨ x.2.2.2.1 = 4 ∨ x.2.2.2.1 = 5 ∨ x.2.2.2.1 = 6) ∧ x.2.2.2.2.1.length < 2305843009213693952 ∧ x.2.2.2.2.2.length < 2305843009213693952) fun n_14 => .all (fun (r : List UInt8 × Int) => r = stp n_14.2.2.1 (arR n_14.2.2.2.1) n_14.2.2.2.2.1 n_14.2.2.2.2.2) fun n_15 => .ex (fun (x : Tp × List (List UInt8) × Int × Int × List UInt8 × List UInt8) => eqL [AV.ptr 0 0, AV.fn 27 [] [], AV.str h, AV.str h] [AV.ptr 0 0, AV.fn (opN x.2.2.2.1) [] [], AV.str x.2.2.2.2.1, AV.str x.2.2.2.2.2] ∧ eqH [.box [AV.int .i64 n_14.1.n, AV.sl n_14.1.ops.length 4 (opG n_14.1.ops), AV.sl n_14.2.1.length 1 (ratG n_14.2.1), AV.int .i64 n_15.2]] [.box [AV.int .i64 x.1.n, AV.sl x.1.ops.length 4 (opG x.1.ops), AV.sl x.2.1.length 1 (ratG x.2.1), AV.int .i64 x.2.2.1]] ∧ 1 = 1 ∧ (x.2.2.2.1 = 3 ∨ x.2.2.2.1 = 4 ∨ x.2.2.2.1 = 5 ∨ x.2.2.2.1 = 6) ∧ x.2.2.2.2.1.length < 2305843009213693952 ∧ x.2.2.2.2.2.length < 2305843009213693952) fun n_16 => .all (fun (r : List UInt8 × Int) => r = stp n_16.2.2.1 (arR n_16.2.2.2.1) n_16.2.2.2.2.1 n_16.2.2.2.2.2) fun n_17 => .leaf (.ret [.str n_15.1, .str n_17.1] [.box [.int .i64 n_16.1.n, .sl n_16.1.ops.length 4 (opG n_16.1.ops), .sl n_16.2.1.length 1 (ratG n_16.2.1), .int .i64 n_17.2], .box [.str h], .box [.int .i64 i], .box [.int .i64 k], Blk.arrI .i64 n.2.2.2.2.length (dgF n.2.2.2.2), Blk.arrI .i64 n_8.2.2.2.2.length (dgF n_8.2.2.2.2), Blk.arrI .i64 n_6.2.2.2.2.length (dgF n_6.2.2.2.2)])) (.ex (fun (x : Tp × List (List UInt8) × Int × List UInt8 × List Int) => eqL [AV.ptr 0 0, AV.str h, AV.osl 1 1 0 2] [AV.ptr 0 0, AV.str x.2.2.2.1, AV.osl 1 1 0 x.2.2.2.2.length] ∧ eqH [.box [AV.int .i64 n, AV.sl ops.length 4 (opG ops), AV.sl inp.length 1 (ratG inp), AV.int .i64 0], .arr 2 1 (zf 1 [AV.int .i64 i, AV.int .i64 k])] [.box [AV.int .i64 x.1.n, AV.sl x.1.ops.length 4 (opG x.1.ops), AV.sl x.2.1.length 1 (ratG x.2.1), AV.int .i64 x.2.2.1], Blk.arrI .i64 x.2.2.2.2.length (dgF x.2.2.2.2)] ∧ 2 = 2 ∧ zh x.1 = 0 ∧ (↑x.2.1.length : Int) = Tp.n x.1 ∧ allQ x.2.1 ∧ errR x.2.2.2.1 = 0 ∧ (∀ (i : Int), i ∈ x.2.2.2.2 → (0 : Int) ≤ i ∧ i < Tp.n x.1) ∧ x.2.2.2.2.length < 1099511627776) fun n => .all (fun (r : List UInt8 × Int) => r = stpA n.2.2.1 (atT n.1 n.2.1 n.2.2.2.1 n.2.2.2.2)) fun n_5 => .ex (fun (x : Tp × List (List UInt8) × Int × List UInt8 × List Int) => eqL [AV.ptr 0 0, AV.str h, AV.osl 1 1 0 1] [AV.ptr 0 0, AV.str x.2.2.2.1, AV.osl 1 1 0 x.2.2.2.2.length] ∧ eqH [.box [AV.int .i64 n.1.n, AV.sl n.1.ops.length 4 (opG n.1.ops), AV.sl n.2.1.length 1 (ratG n.2.1), AV.int .i64 n_5.2], .arr 1 1 (zf 1 [AV.int .i64 i])] [.box [AV.int .i64 x.1.n, AV.sl x.1.ops.length 4 (opG x.1.ops), AV.sl x.2.1.length 1 (ratG x.2.1), AV.int .i64 x.2.2.1], Blk.arrI .i64 x.2.2.2.2.length (dgF x.2.2.2.2)] ∧ 2 = 2 ∧ zh x.1 = 0 ∧ (↑x.2.1.length : Int) = Tp.n x.1 ∧ allQ x.2.1 ∧ errR x.2.2.2.1 = 0 ∧ (∀ (i : Int), i ∈ x.2.2.2.2 → (0 : Int) ≤ i ∧ i < Tp.n x.1) ∧ x.2.2.2.2.length < 1099511627776) fun n_6 => .all (fun (r : List UInt8 × Int) => r = stpA n_6.2.2.1 (atT n_6.1 n_6.2.1 n_6.2.2.2.1 n_6.2.2.2.2)) fun n_7 => .ex (fun (x : Tp × List (List UInt8) × Int × List UInt8 × List Int) => eqL [AV.ptr 0 0, AV.str h, AV.osl 1 1 0 1] [AV.ptr 0 0, AV.str x.2.2.2.1, AV.osl 1 1 0 x.2.2.2.2.length] ∧ eqH [.box [AV.int .i64 n_6.1.n, AV.sl n_6.1.ops.length 4 (opG n_6.1.ops), AV.sl n_6.2.1.length 1 (ratG n_6.2.1), AV.int .i64 n_7.2], .arr 1 1 (zf 1 [AV.int .i64 k])] [.box [AV.int .i64 x.1.n, AV.sl x.1.ops.length 4 (opG x.1.ops), AV.sl x.2.1.length 1 (ratG x.2.1), AV.int .i64 x.2.2.1], Blk.arrI .i64 x.2.2.2.2.length (dgF x.2.2.2.2)] ∧ 2 = 2 ∧ zh x.1 = 0 ∧ (↑x.2.1.length : Int) = Tp.n x.1 ∧ allQ x.2.1 ∧ errR x.2.2.2.1 = 0 ∧ (∀ (i : Int), i ∈ x.2.2.2.2 → (0 : Int) ≤ i ∧ i < Tp.n x.1) ∧ x.2.2.2.2.length < 1099511627776) fun n_8 => .all (fun (r : List UInt8 × Int) => r = stpA n_8.2.2.1 (atT n_8.1 n_8.2.1 n_8.2.2.2.1 n_8.2.2.2.2)) fun n_9 => .ex (fun (x : Tp × List (List UInt8) × Int × Int × List UInt8 × List UInt8) => eqL [AV.ptr 0 0, AV.fn 17 [] [], AV.str n_5.1, AV.str n_7.1] [AV.ptr 0 0, AV.fn (opN x.2.2.2.1) [] [], AV.str x.2.2.2.2.1, AV.str x.2.2.2.2.2] ∧ eqH [.box [AV.int .i64 n_8.1.n, AV.sl n_8.1.ops.length 4 (opG n_8.1.ops), AV.sl n_8.2.1.length 1 (ratG n_8.2.1), AV.int .i64 n_9.2]] [.box [AV.int .i64 x.1.n, AV.sl x.1.ops.length 4 (opG x.1.ops), AV.sl x.2.1.length 1 (ratG x.2.1), AV.int .i64 x.2.2.1]] ∧ 1 = 1 ∧ (x.2.2.2.1 = 3 ∨ x.2.2.2.1 = 4 ∨ x.2.2.2.1 = 5 ∨ x.2.2.2.1 = 6) ∧ x.2.2.2.2.1.length < 2305843009213693952 ∧ x.2.2.2.2.2.length < 2305843009213693952) fun n_10 => .all (fun (r : List UInt8 × Int) => r = stp n_10.2.2.1 (arR n_10.2.2.2.1) n_10.2.2.2.2.1 n_10.2.2.2.2.2) fun n_11 => .ex (fun (x : Tp × List (List UInt8) × Int × Int × List UInt8 × List UInt8) => eqL [AV.ptr 0 0, AV.fn 17 [] [], AV.str n_11.1, AV.str n_9.1] [AV.ptr 0 0, AV.fn (opN x.2.2.2.1) [] [], AV.str x.2.2.2.2.1, AV.str x.2.2.2.2.2] ∧ eqH [.box [AV.int .i64 n_10.1.n, AV.sl n_10.1.ops.length 4 (opG n_10.1.ops), AV.sl n_10.2.1.length 1 (ratG n_10.2.1), AV.int .i64 n_11.2]] [.box [AV.int .i64 x.1.n, AV.sl x.1.ops.length 4 (opG x.1.ops), AV.sl x.2.1.length 1 (ratG x.2.1), AV.int .i64 x.2.2.1]] ∧ 1 = 1 ∧ (x.2.2.2.1 = 3 ∨ x.2.2.2.1 = 4 ∨ x.2.2.2.1 = 5 ∨ x.2.2.2.1 = 6) ∧ x.2.2.2.2.1.length < 2305843009213693952 ∧ x.2.2.2.2.2.length < 2305843009213693952) fun n_12 => .all (fun (r : List UInt8 × Int) => r = stp n_12.2.2.1 (arR n_12.2.2.2.1) n_12.2.2.2.2.1 n_12.2.2.2.2.2) fun n_13 => .ex (fun (x : Tp × List (List UInt8) × Int × Int × List UInt8 × List UInt8) => eqL [AV.ptr 0 0, AV.fn 24 [] [], AV.str n_13.1, AV.str v] [AV.ptr 0 0, AV.fn (opN x.2.2.2.1) [] [], AV.str x.2.2.2.2.1, AV.str x.2.2.2.2.2] ∧ eqH [.box [AV.int .i64 n_12.1.n, AV.sl n_12.1.ops.length 4 (opG n_12.1.ops), AV.sl n_12.2.1.length 1 (ratG n_12.2.1), AV.int .i64 n_13.2]] [.box [AV.int .i64 x.1.n, AV.sl x.1.ops.length 4 (opG x.1.ops), AV.sl x.2.1.length 1 (ratG x.2.1), AV.int .i64 x.2.2.1]] ∧ 1 = 1 ∧ (x.2.2.2.1 = 3 ∨ x.2.2.2.1 = 4 ∨ x.2.2.2.1 = 5 ∨ x.2.2.2.1 = 6) ∧ x.2.2.2.2.1.length < 2305843009213693952 ∧ x.2.2.2.2.2.length < 2305843009213693952) fun n_14 => .all (fun (r : List UInt8 × Int) => r = stp n_14.2.2.1 (arR n_14.2.2.2.1) n_14.2.2.2.2.1 n_14.2.2.2.2.2) fun n_15 => .ex (fun (x : Tp × List (List UInt8) × Int × Int × List UInt8 × List UInt8) => eqL [AV.ptr 0 0, AV.fn 27 [] [], AV.str h, AV.str h] [AV.ptr 0 0, AV.fn (opN x.2.2.2.1) [] [], AV.str x.2.2.2.2.1, AV.str x.2.2.2.2.2] ∧ eqH [.box [AV.int .i64 n_14.1.n, AV.sl n_14.1.ops.length 4 (opG n_14.1.ops), AV.sl n_14.2.1.length 1 (ratG n_14.2.1), AV.int .i64 n_15.2]] [.box [AV.int .i64 x.1.n, AV.sl x.1.ops.length 4 (opG x.1.ops), AV.sl x.2.1.length 1 (ratG x.2.1), AV.int .i64 x.2.2.1]] ∧ 1 = 1 ∧ (x.2.2.2.1 = 3 ∨ x.2.2.2.1 = 4 ∨ x.2.2.2.1 = 5 ∨ x.2.2.2.1 = 6) ∧ x.2.2.2.2.1.length < 2305843009213693952 ∧ x.2.2.2.2.2.length < 2305843009213693952) fun n_16 => .all (fun (r : List UInt8 × Int) => r = stp n_16.2.2.1 (arR n_16.2.2.2.1) n_16.2.2.2.2.1 n_16.2.2.2.2.2) fun n_17 => .leaf (.ret [.str n_15.1, .str n_17.1] [.box [.int .i64 n_16.1.n, .sl n_16.1.ops.length 4 (opG n_16.1.ops), .sl n_16.2.1.length 1 (ratG n_16.2.1), .int .i64 n_17.2], .box [.str h], .box [.int .i64 i], .box [.int .i64 k], Blk.arrI .i64 n.2.2.2.2.length (dgF n.2.2.2.2), Blk.arrI .i64 n_8.2.2.2.2.length (dgF n_8.2.2.2.2), Blk.arrI .i64 n_6.2.2.2.2.length (dgF n_6.2.2.2.2)]))))) (.all (fun (x : Bool) => True) fun n_2 => .ite n_2 (.all (fun (x : Bool) => True) fun n_3 => .ite n_3 (.all (fun (x : Bool) => True) fun n_4 => .ite n_4 (.ex (fun (x : Tp × List (List UInt8) × Int × List UInt8 × List Int) => eqL [AV.ptr 0 0, AV.str h, AV.osl 1 1 0 2] [AV.ptr 0 0, AV.str x.2.2.2.1, AV.osl 1 1 0 x.2.2.2.2.length] ∧ eqH [.box [AV.int .i64 n, AV.sl ops.length 4 (opG ops), AV.sl inp.length 1 (ratG inp), AV.int .i64 0], .arr 2 1 (zf 1 [AV.int .i64 i, AV.int .i64 k])] [.box [AV.int .i64 x.1.n, AV.sl x.1.ops.length 4 (opG x.1.ops), AV.sl x.2.1.length 1 (ratG x.2.1), AV.int .i64 x.2.2.1], Blk.arrI .i64 x.2.2.2.2.length (dgF x.2.2.2.2)] ∧ 2 = 2 ∧ zh x.1 = 0 ∧ (↑x.2.1.length : Int) = Tp.n x.1 ∧ allQ x.2.1 ∧ errR x.2.2.2.1 = 0 ∧ (∀ (i : Int), i ∈ x.2.2.2.2 → (0 : Int) ≤ i ∧ i < Tp.n x.1) ∧ x.2.2.2.2.length < 1099511627776) fun n => .all (fun (r : List UInt8 × Int) => r = stpA n.2.2.1 (atT n.1 n.2.1 n.2.2.2.1 n.2.2.2.2)) fun n_5 => .all (fun (x : Bool) => True) fun n_6 => .ite n_6 (.ex (fun (x : Tp × List (List UInt8) × Int × List UInt8 × List Int) => eqL [AV.ptr 0 0, AV.str h, AV.osl 1 1 0 1] [AV.ptr 0 0, AV.str x.2.2.2.1, AV.osl 1 1 0 x.2.2.2.2.length] ∧ eqH [.box [AV.int .i64 n.1.n, AV.sl n.1.ops.length 4 (opG n.1.ops), AV.sl n.2.1.length 1 (ratG n.2.1), AV.int .i64 n_5.2], .arr 1 1 (zf 1 [AV.int .i64 i])] [.box [AV.int .i64 x.1.n, AV.sl x.1.ops.length 4 (opG x.1.ops), AV.sl x.2.1.length 1 (ratG x.2.1), AV.int .i64 x.2.2.1], Blk.arrI .i64 x.2.2.2.2.length (dgF x.2.2.2.2)] ∧ 2 = 2 ∧ zh x.1 = 0 ∧ (↑x.2.1.length : Int) = Tp.n x.1 ∧ allQ x.2.1 ∧ errR x.2.2.2.1 = 0 ∧ (∀ (i : Int), i ∈ x.2.2.2.2 → (0 : Int) ≤ i ∧ i < Tp.n x.1) ∧ x.2.2.2.2.length < 1099511627776) fun n_7 => .all (fun (r : List UInt8 × Int) => r = stpA n_7.2.2.1 (atT n_7.1 n_7.2.1 n_7.2.2.2.1 n_7.2.2.2.2)) fun n_8 => .ex (fun (x : Tp × List (List UInt8) × Int × List UInt8 × List Int) => eqL [AV.ptr 0 0, AV.str h, AV.osl 1 1 0 1] [AV.ptr 0 0, AV.str x.2.2.2.1, AV.osl 1 1 0 x.2.2.2.2.length] ∧ eqH [.box [AV.int .i64 n_7.1.n, AV.sl n_7.1.ops.length 4 (opG n_7.1.ops), AV.sl n_7.2.1.length 1 (ratG n_7.2.1), AV.int .i64 n_8.2], .arr 1 1 (zf 1 [AV.int .i64 k])] [.box [AV.int .i64 x.1.n, AV.sl x.1.ops.length 4 (opG x.1.ops), AV.sl x.2.1.length 1 (ratG x.2.1), AV.int .i64 x.2.2.1], Blk.arrI .i64 x.2.2.2.2.length (dgF x.2.2.2.2)] ∧ 2 = 2 ∧ zh x.1 = 0 ∧ (↑x.2.1.length : Int) = Tp.n x.1 ∧ allQ x.2.1 ∧ errR x.2.2.2.1 = 0 ∧ (∀ (i : Int), i ∈ x.2.2.2.2 → (0 : Int) ≤ i ∧ i < Tp.n x.1) ∧ x.2.2.2.2.length < 1099511627776) fun n_9 => .all (fun (r : List UInt8 × Int) => r = stpA n_9.2.2.1 (atT n_9.1 n_9.2.1 n_9.2.2.2.1 n_9.2.2.2.2)) fun n_10 => .ex (fun (x : Tp × List (List UInt8) × Int × Int × List UInt8 × List UInt8) => eqL [AV.ptr 0 0, AV.fn 17 [] [], AV.str n_5.1, AV.str n_8.1] [AV.ptr 0 0, AV.fn (opN x.2.2.2.1) [] [], AV.str x.2.2.2.2.1, AV.str x.2.2.2.2.2] ∧ eqH [.box [AV.int .i64 n_9.1.n, AV.sl n_9.1.ops.length 4 (opG n_9.1.ops), AV.sl n_9.2.1.length 1 (ratG n_9.2.1), AV.int .i64 n_10.2]] [.box [AV.int .i64 x.1.n, AV.sl x.1.ops.length 4 (opG x.1.ops), AV.sl x.2.1.length 1 (ratG x.2.1), AV.int .i64 x.2.2.1]] ∧ 1 = 1 ∧ (x.2.2.2.1 = 3 ∨ x.2.2.2.1 = 4 ∨ x.2.2.2.1 = 5 ∨ x.2.2.2.1 = 6) ∧ x.2.2.2.2.1.length < 2305843009213693952 ∧ x.2.2.2.2.2.length < 2305843009213693952) fun n_11 => .all (fun (r : List UInt8 × Int) => r = stp n_11.2.2.1 (arR n_11.2.2.2.1) n_11.2.2.2.2.1 n_11.2.2.2.2.2) fun n_12 => .ex (fun (x : Tp × List (List UInt8) × Int × Int × List UInt8 × List UInt8) => eqL [AV.ptr 0 0, AV.fn 17 [] [], AV.str n_12.1, AV.str n_10.1] [AV.ptr 0 0, AV.fn (opN x.2.2.2.1) [] [], AV.str x.2.2.2.2.1, AV.str x.2.2.2.2.2] ∧ eqH [.box [AV.int .i64 n_11.1.n, AV.sl n_11.1.ops.length 4 (opG n_11.1.ops), AV.sl n_11.2.1.length 1 (ratG n_11.2.1), AV.int .i64 n_12.2]] [.box [AV.int .i64 x.1.n, AV.sl x.1.ops.length 4 (opG x.1.ops), AV.sl x.2.1.length 1 (ratG x.2.1), AV.int .i64 x.2.2.1]] ∧ 1 = 1 ∧ (x.2.2.2.1 = 3 ∨ x.2.2.2.1 = 4 ∨ x.2.2.2.1 = 5 ∨ x.2.2.2.1 = 6) ∧ x.2.2.2.2.1.length < 2305843009213693952 ∧ x.2.2.2.2.2.length < 2305843009213693952) fun n_13 => .all (fun (r : List UInt8 × Int) => r = stp n_13.2.2.1 (arR n_13.2.2.2.1) n_13.2.2.2.2.1 n_13.2.2.2.2.2) fun n_14 => .ex (fun (x : Tp × List (List UInt8) × Int × Int × List UInt8 × List UInt8) => eqL [AV.ptr 0 0, AV.fn 24 [] [], AV.str n_14.1, AV.str v] [AV.ptr 0 0, AV.fn (opN x.2.2.2.1) [] [], AV.str x.2.2.2.2.1, AV.str x.2.2.2.2.2] ∧ eqH [.box [AV.int .i64 n_13.1.n, AV.sl n_13.1.ops.length 4 (opG n_13.1.ops), AV.sl n_13.2.1.length 1 (ratG n_13.2.1), AV.int .i64 n_14.2]] [.box [AV.int .i64 x.1.n, AV.sl x.1.ops.length 4 (opG x.1.ops), AV.sl x.2.1.length 1 (ratG x.2.1), AV.int .i64 x.2.2.1]] ∧ 1 = 1 ∧ (x.2.2.2.1 = 3 ∨ x.2.2.2.1 = 4 ∨ x.2.2.2.1 = 5 ∨ x.2.2.2.1 = 6) ∧ x.2.2.2.2.1.length < 2305843009213693952 ∧ x.2.2.2.2.2.length < 2305843009213693952) fun n_15 => .all (fun (r : List UInt8 × Int) => r = stp n_15.2.2.1 (arR n_15.2.2.2.1) n_15.2.2.2.2.1 n_15.2.2.2.2.2) fun n_16 => .ex (fun (x : Tp × List (List UInt8) × Int × Int × List UInt8 × List UInt8) => eqL [AV.ptr 0 0, AV.fn 27 [] [], AV.str h, AV.str h] [AV.ptr 0 0, AV.fn (opN x.2.2.2.1) [] [], AV.str x.2.2.2.2.1, AV.str x.2.2.2.2.2] ∧ eqH [.box [AV.int .i64 n_15.1.n, AV.sl n_15.1.ops.length 4 (opG n_15.1.ops), AV.sl n_15.2.1.length 1 (ratG n_15.2.1), AV.int .i64 n_16.2]] [.box [AV.int .i64 x.1.n, AV.sl x.1.ops.length 4 (opG x.1.ops), AV.sl x.2.1.length 1 (ratG x.2.1), AV.int .i64 x.2.2.1]] ∧ 1 = 1 ∧ (x.2.2.2.1 = 3 ∨ x.2.2.2.1 = 4 ∨ x.2.2.2.1 = 5 ∨ x.2.2.2.1 = 6) ∧ x.2.2.2.2.1.length < 2305843009213693952 ∧ x.2.2.2.2.2.length < 2305843009213693952) fun n_17 => .all (fun (r : List UInt8 × Int) => r = stp n_17.2.2.1 (arR n_17.2.2.2.1) n_17.2.2.2.2.1 n_17.2.2.2.2.2) fun n_18 => .leaf (.ret [.str n_16.1, .str n_18.1] [.box [.int .i64 n_17.1.n, .sl n_17.1.ops.length 4 (opG n_17.1.ops), .sl n_17.2.1.length 1 (ratG n_17.2.1), .int .i64 n_18.2], .box [.str h], .box [.int .i64 i], .box [.int .i64 k], Blk.arrI .i64 n_7.2.2.2.2.length (dgF n_7.2.2.2.2), Blk.arrI .i64 n.2.2.2.2.length (dgF n.2.2.2.2), Blk.arrI .i64 n_9.2.2.2.2.length (dgF n_9.2.2.2.2)])) (.ex (fun (x : Tp × List (List UInt8) × Int × List UInt8 × List Int) => eqL [AV.ptr 0 0, AV.str h, AV.osl 1 1 0 1] [AV.ptr 0 0, AV.str x.2.2.2.1, AV.osl 1 1 0 x.2.2.2.2.length] ∧ eqH [.box [AV.int .i64 n.1.n, AV.sl n.1.ops.length 4 (opG n.1.ops), AV.sl n.2.1.length 1 (ratG n.2.1), AV.int .i64 n_5.2], .arr 1 1 (zf 1 [AV.int .i64 i])] [.box [AV.int .i64 x.1.n, AV.sl x.1.ops.length 4 (opG x.1.ops), AV.sl x.2.1.length 1 (ratG x.2.1), AV.int .i64 x.2.2.1], Blk.arrI .i64 x.2.2.2.2.length (dgF x.2.2.2.2)] ∧ 2 = 2 ∧ zh x.1 = 0 ∧ (↑x.2.1.length : Int) = Tp.n x.1 ∧ allQ x.2.1 ∧ errR x.2.2.2.1 = 0 ∧ (∀ (i : Int), i ∈ x.2.2.2.2 → (0 : Int) ≤ i ∧ i < Tp.n x.1) ∧ x.2.2.2.2.length < 1099511627776) fun n_7 => .all (fun (r : List UInt8 × Int) => r = stpA n_7.2.2.1 (atT n_7.1 n_7.2.1 n_7.2.2.2.1 n_7.2.2.2.2)) fun n_8 => .ex (fun (x : Tp × List (List UInt8) × Int × List UInt8 × List Int) => eqL [AV.ptr 0 0, AV.str h, AV.osl 1 1 0 1] [AV.ptr 0 0, AV.str x.2.2.2.1, AV.osl 1 1 0 x.2.2.2.2.length] ∧ eqH [.box [AV.int .i64 n_7.1.n, AV.sl n_7.1.ops.length 4 (opG n_7.1.ops), AV.sl n_7.2.1.length 1 (ratG n_7.2.1), AV.int .i64 n_8.2], .arr 1 1 (zf 1 [AV.int .i64 k])] [.box [AV.int .i64 x.1.n, AV.sl x.1.ops.length 4 (opG x.1.ops), AV.sl x.2.1.length 1 (ratG x.2.1), AV.int .i64 x.2.2.1], Blk.arrI .i64 x.2.2.2.2.length (dgF x.2.2.2.2)] ∧ 2 = 2 ∧ zh x.1 = 0 ∧ (↑x.2.1.length : Int) = Tp.n x.1 ∧ allQ x.2.1 ∧ errR x.2.2.2.1 = 0 ∧ (∀ (i : Int), i ∈ x.2.2.2.2 → (0 : Int) ≤ i ∧ i < Tp.n x.1) ∧ x.2.2.2.2.length < 1099511627776) fun n_9 => .all (fun (r : List UInt8 × Int) => r = stpA n_9.2.2.1 (atT n_9.1 n_9.2.1 n_9.2.2.2.1 n_9.2.2.2.2)) fun n_10 => .ex (fun (x : Tp × List (List UInt8) × Int × Int × List UInt8 × List UInt8) => eqL [AV.ptr 0 0, AV.fn 17 [] [], AV.str n_5.1, AV.str n_8.1] [AV.ptr 0 0, AV.fn (opN x.2.2.2.1) [] [], AV.str x.2.2.2.2.1, AV.str x.2.2.2.2.2] ∧ eqH [.box [AV.int .i64 n_9.1.n, AV.sl n_9.1.ops.length 4 (opG n_9.1.ops), AV.sl n_9.2.1.length 1 (ratG n_9.2.1), AV.int .i64 n_10.2]] [.box [AV.int .i64 x.1.n, AV.sl x.1.ops.length 4 (opG x.1.ops), AV.sl x.2.1.length 1 (ratG x.2.1), AV.int .i64 x.2.2.1]] ∧ 1 = 1 ∧ (x.2.2.2.1 = 3 ∨ x.2.2.2.1 = 4 ∨ x.2.2.2.1 = 5 ∨ x.2.2.2.1 = 6) ∧ x.2.2.2.2.1.length < 2305843009213693952 ∧ x.2.2.2.2.2.length < 2305843009213693952) fun n_11 => .all (fun (r : List UInt8 × Int) => r = stp n_11.2.2.1 (arR n_11.2.2.2.1) n_11.2.2.2.2.1 n_11.2.2.2.2.2) fun n_12 => .ex (fun (x : Tp × List (List UInt8) × Int × Int × List UInt8 × List UInt8) => eqL [AV.ptr 0 0, AV.fn 17 [] [], AV.str n_12.1, AV.str n_10.1] [AV.ptr 0 0, AV.fn (opN x.2.2.2.1) [] [], AV.str x.2.2.2.2.1, AV.str x.2.2.2.2.2] ∧ eqH [.box [AV.int .i64 n_11.1.n, AV.sl n_11.1.ops.length 4 (opG n_11.1.ops), AV.sl n_11.2.1.length 1 (ratG n_11.2.1), AV.int .i64 n_12.2]] [.box [AV.int .i64 x.1.n, AV.sl x.1.ops.length 4 (opG x.1.ops), AV.sl x.2.1.length 1 (ratG x.2.1), AV.int .i64 x.2.2.1]] ∧ 1 = 1 ∧ (x.2.2.2.1 = 3 ∨ x.2.2.2.1 = 4 ∨ x.2.2.2.1 = 5 ∨ x.2.2.2.1 = 6) ∧ x.2.2.2.2.1.length < 2305843009213693952 ∧ x.2.2.2.2.2.length < 2305843009213693952) fun n_13 => .all (fun (r : List UInt8 × Int) => r = stp n_13.2.2.1 (arR n_13.2.2.2.1) n_13.2.2.2.2.1 n_13.2.2.2.2.2) fun n_14 => .ex (fun (x : Tp × List (List UInt8) × Int × Int × List UInt8 × List UInt8) => eqL [AV.ptr 0 0, AV.fn 24 [] [], AV.str n_14.1, AV.str v] [AV.ptr 0 0, AV.fn (opN x.2.2.2.1) [] [], AV.str x.2.2.2.2.1, AV.str x.2.2.2.2.2] ∧ eqH [.box [AV.int .i64 n_13.1.n, AV.sl n_13.1.ops.length 4 (opG n_13.1.ops), AV.sl n_13.2.1.length 1 (ratG n_13.2.1), AV.int .i64 n_14.2]] [.box [AV.int .i64 x.1.n, AV.sl x.1.ops.length 4 (opG x.1.ops), AV.sl x.2.1.length 1 (ratG x.2.1), AV.int .i64 x.2.2.1]] ∧ 1 = 1 ∧ (x.2.2.2.1 = 3 ∨ x.2.2.2.1 = 4 ∨ x.2.2.2.1 = 5 ∨ x.2.2.2.1 = 6) ∧ x.2.2.2.2.1.length < 2305843009213693952 ∧ x.2.2.2.2.2.length < 2305843009213693952) fun n_15 => .all (fun (r : List UInt8 × Int) => r = stp n_15.2.2.1 (arR n_15.2.2.2.1) n_15.2.2.2.2.1 n_15.2.2.2.2.2) fun n_16 => .ex (fun (x : Tp × List (List UInt8) × Int × Int × List UInt8 × List UInt8) => eqL [AV.ptr 0 0, AV.fn 27 [] [], AV.str h, AV.str h] [AV.ptr 0 0, AV.fn (opN x.2.2.2.1) [] [], AV.str x.2.2.2.2.1, AV.str x.2.2.2.2.2] ∧ eqH [.box [AV.int .i64 n_15.1.n, AV.sl n_15.1.ops.length 4 (opG n_15.1.ops), AV.sl n_15.2.1.length 1 (ratG n_15.2.1), AV.int .i64 n_16.2]] [.box [AV.int .i64 x.1.n, AV.sl x.1.ops.length 4 (opG x.1.ops), AV.sl x.2.1.length 1 (ratG x.2.1), AV.int .i64 x.2.2.1]] ∧ 1 = 1 ∧ (x.2.2.2.1 = 3 ∨ x.2.2.2.1 = 4 ∨ x.2.2.2.1 = 5 ∨ x.2.2.2.1 = 6) ∧ x.2.2.2.2.1.length < 2305843009213693952 ∧ x.2.2.2.2.2.length < 2305843009213693952) fun n_17 => .all (fun (r : List UInt8 × Int) => r = stp n_17.2.2.1 (arR n_17.2.2.2.1) n_17.2.2.2.2.1 n_17.2.2.2.2.2) fun n_18 => .leaf (.ret [.str n_16.1, .str n_18.1] [.box [.int .i64 n_17.1.n, .sl n_17.1.ops.length 4 (opG n_17.1.ops), .sl n_17.2.1.length 1 (ratG n_17.2.1), .int .i64 n_18.2], .box [.str h], .box [.int .i64 i], .box [.int .i64 k], Blk.arrI .i64 n_7.2.2.2.2.length (dgF n_7.2.2.2.2), Blk.arrI .i64 n.2.2.2.2.length (dgF n.2.2.2.2), Blk.arrI .i64 n_9.2.2.2.2.length (dgF n_9.2.2.2.2)]))) (.ex (fun (x : Tp × List (List UInt8) × Int × List UInt8 × List Int) => eqL [AV.ptr 0 0, AV.str h, AV.osl 1 1 0 2] [AV.ptr 0 0, AV.str x.2.2.2.1, AV.osl 1 1 0 x.2.2.2.2.length] ∧ eqH [.box [AV.int .i64 n, AV.sl ops.length 4 (opG ops), AV.sl inp.length 1 (ratG inp), AV.int .i64 0], .arr 2 1 (zf 1 [AV.int .i64 i, AV.int .i64 k])] [.box [AV.int .i64 x.1.n, AV.sl x.1.ops.length 4 (opG x.1.ops), AV.sl x.2.1.length 1 (ratG x.2.1), AV.int .i64 x.2.2.1], Blk.arrI .i64 x.2.2.2.2.length (dgF x.2.2.2.2)] ∧ 2 = 2 ∧ zh x.1 = 0 ∧ (↑x.2.1.length : Int) = Tp.n x.1 ∧ allQ x.2.1 ∧ errR x.2.2.2.1 = 0 ∧ (∀ (i : Int), i ∈ x.2.2.2.2 → (0 : Int) ≤ i ∧ i < Tp.n x.1) ∧ x.2.2.2.2.length < 1099511627776) fun n => .all (fun (r : List UInt8 × Int) => r = stpA n.2.2.1 (atT n.1 n.2.1 n.2.2.2.1 n.2.2.2.2)) fun n_5 => .ex (fun (x : Tp × List (List UInt8) × Int × List UInt8 × List Int) => eqL [AV.ptr 0 0, AV.str h, AV.osl 1 1 0 1] [AV.ptr 0 0, AV.str x.2.2.2.1, AV.osl 1 1 0 x.2.2.2.2.length] ∧ eqH [.box [AV.int .i64 n.1.n, AV.sl n.1.ops.length 4 (opG n.1.ops), AV.sl n.2.1.length 1 (ratG n.2.1), AV.int .i64 n_5.2], .arr 1 1 (zf 1 [AV.int .i64 i])] [.box [AV.int .i64 x.1.n, AV.sl x.1.ops.length 4 (opG x.1.ops), AV.sl x.2.1.length 1 (ratG x.2.1), AV.int .i64 x.2.2.1], Blk.arrI .i64 x.2.2.2.2.length (dgF x.2.2.2.2)] ∧ 2 = 2 ∧ zh x.1 = 0 ∧ (↑x.2.1.length : Int) = Tp.n x.1 ∧ allQ x.2.1 ∧ errR x.2.2.2.1 = 0 ∧ (∀ (i : Int), i ∈ x.2.2.2.2 → (0 : Int) ≤ i ∧ i < Tp.n x.1) ∧ x.2.2.2.2.length < 1099511627776) fun n_6 => .all (fun (r : List UInt8 × Int) => r = stpA n_6.2.2.1 (atT n_6.1 n_6.2.1 n_6.2.2.2.1 n_6.2.2.2.2)) fun n_7 => .ex (fun (x : Tp × List (List UInt8) × Int × List UInt8 × List Int) => eqL [AV.ptr 0 0, AV.str h, AV.osl 1 1 0 1] [AV.ptr 0 0, AV.str x.2.2.2.1, AV.osl 1 1 0 x.2.2.2.2.length] ∧ eqH [.box [AV.int .i64 n_6.1.n, AV.sl n_6.1.ops.length 4 (opG n_6.1.ops), AV.sl n_6.2.1.length 1 (ratG n_6.2.1), AV.int .i64 n_7.2], .arr 1 1 (zf 1 [AV.int .i64 k])] [.box [AV.int .i64 x.1.n, AV.sl x.1.ops.length 4 (opG x.1.ops), AV.sl x.2.1.length 1 (ratG x.2.1), AV.int .i64 x.2.2.1], Blk.arrI .i64 x.2.2.2.2.length (dgF x.2.2.2.2)] ∧ 2 = 2 ∧ zh x.1 = 0 ∧ (↑x.2.1.length : Int) = Tp.n x.1 ∧ allQ x.2.1 ∧ errR x.2.2.2.1 = 0 ∧ (∀ (i : Int), i ∈ x.2.2.2.2 → (0 : Int) ≤ i ∧ i < Tp.n x.1) ∧ x.2.2.2.2.length < 1099511627776) fun n_8 => .all (fun (r : List UInt8 × Int) => r = stpA n_8.2.2.1 (atT n_8.1 n_8.2.1 n_8.2.2.2.1 n_8.2.2.2.2)) fun n_9 => .ex (fun (x : Tp × List (List UInt8) × Int × Int × List UInt8 × List UInt8) => eqL [AV.ptr 0 0, AV.fn 17 [] [], AV.str n_5.1, AV.str n_7.1] [AV.ptr 0 0, AV.fn (opN x.2.2.2.1) [] [], AV.str x.2.2.2.2.1, AV.str x.2.2.2.2.2] ∧ eqH [.box [AV.int .i64 n_8.1.n, AV.sl n_8.1.ops.length 4 (opG n_8.1.ops), AV.sl n_8.2.1.length 1 (ratG n_8.2.1), AV.int .i64 n_9.2]] [.box [AV.int .i64 x.1.n, AV.sl x.1.ops.length 4 (opG x.1.ops), AV.sl x.2.1.length 1 (ratG x.2.1), AV.int .i64 x.2.2.1]] ∧ 1 = 1 ∧ (x.2.2.2.1 = 3 ∨ x.2.2.2.1 = 4 ∨ x.2.2.2.1 = 5 ∨ x.2.2.2.1 = 6) ∧ x.2.2.2.2.1.length < 2305843009213693952 ∧ x.2.2.2.2.2.length < 2305843009213693952) fun n_10 => .all (fun (r : List UInt8 × Int) => r = stp n_10.2.2.1 (arR n_10.2.2.2.1) n_10.2.2.2.2.1 n_10.2.2.2.2.2) fun n_11 => .ex (fun (x : Tp × List (List UInt8) × Int × Int × List UInt8 × List UInt8) => eqL [AV.ptr 0 0, AV.fn 17 [] [], AV.str n_11.1, AV.str n_9.1] [AV.ptr 0 0, AV.fn (opN x.2.2.2.1) [] [], AV.str x.2.2.2.2.1, AV.str x.2.2.2.2.2] ∧ eqH [.box [AV.int .i64 n_10.1.n, AV.sl n_10.1.ops.length 4 (opG n_10.1.ops), AV.sl n_10.2.1.length 1 (ratG n_10.2.1), AV.int .i64 n_11.2]] [.box [AV.int .i64 x.1.n, AV.sl x.1.ops.length 4 (opG x.1.ops), AV.sl x.2.1.length 1 (ratG x.2.1), AV.int .i64 x.2.2.1]] ∧ 1 = 1 ∧ (x.2.2.2.1 = 3 ∨ x.2.2.2.1 = 4 ∨ x.2.2.2.1 = 5 ∨ x.2.2.2.1 = 6) ∧ x.2.2.2.2.1.length < 2305843009213693952 ∧ x.2.2.2.2.2.length < 2305843009213693952) fun n_12 => .all (fun (r : List UInt8 × Int) => r = stp n_12.2.2.1 (arR n_12.2.2.2.1) n_12.2.2.2.2.1 n_12.2.2.2.2.2) fun n_13 => .ex (fun (x : Tp × List (List UInt8) × Int × Int × List UInt8 × List UInt8) => eqL [AV.ptr 0 0, AV.fn 24 [] [], AV.str n_13.1, AV.str v] [AV.ptr 0 0, AV.fn (opN x.2.2.2.1) [] [], AV.str x.2.2.2.2.1, AV.str x.2.2.2.2.2] ∧ eqH [.box [AV.int .i64 n_12.1.n, AV.sl n_12.1.ops.length 4 (opG n_12.1.ops), AV.sl n_12.2.1.length 1 (ratG n_12.2.1), AV.int .i64 n_13.2]] [.box [AV.int .i64 x.1.n, AV.sl x.1.ops.length 4 (opG x.1.ops), AV.sl x.2.1.length 1 (ratG x.2.1), AV.int .i64 x.2.2.1]] ∧ 1 = 1 ∧ (x.2.2.2.1 = 3 ∨ x.2.2.2.1 = 4 ∨ x.2.2.2.1 = 5 ∨ x.2.2.2.1 = 6) ∧ x.2.2.2.2.1.length < 2305843009213693952 ∧ x.2.2.2.2.2.length < 2305843009213693952) fun n_14 => .all (fun (r : List UInt8 × Int) => r = stp n_14.2.2.1 (arR n_14.2.2.2.1) n_14.2.2.2.2.1 n_14.2.2.2.2.2) fun n_15 => .ex (fun (x : Tp × List (List UInt8) × Int × Int × List UInt8 × List UInt8) => eqL [AV.ptr 0 0, AV.fn 27 [] [], AV.str h, AV.str h] [AV.ptr 0 0, AV.fn (opN x.2.2.2.1) [] [], AV.str x.2.2.2.2.1, AV.str x.2.2.2.2.2] ∧ eqH [.box [AV.int .i64 n_14.1.n, AV.sl n_14.1.ops.length 4 (opG n_14.1.ops), AV.sl n_14.2.1.length 1 (ratG n_14.2.1), AV.int .i64 n_15.2]] [.box [AV.int .i64 x.1.n, AV.sl x.1.ops.length 4 (opG x.1.ops), AV.sl x.2.1.length 1 (ratG x.2.1), AV.int .i64 x.2.2.1]] ∧ 1 = 1 ∧ (x.2.2.2.1 = 3 ∨ x.2.2.2.1 = 4 ∨ x.2.2.2.1 = 5 ∨ x.2.2.2.1 = 6) ∧ x.2.2.2.2.1.length < 2305843009213693952 ∧ x.2.2.2.2.2.length < 2305843009213693952) fun n_16 => .all (fun (r : List UInt8 × Int) => r = stp n_16.2.2.1 (arR n_16.2.2.2.1) n_16.2.2.2.2.1 n_16.2.2.2.2.2) fun n_17 => .leaf (.ret [.str n_15.1, .str n_17.1] [.box [.int .i64 n_16.1.n, .sl n_16.1.ops.length 4 (opG n_16.1.ops), .sl n_16.2.1.length 1 (ratG n_16.2.1), .int .i64 n_17.2], .box [.str h], .box [.int .i64 i], .box [.int .i64 k], Blk.arrI .i64 n_6.2.2.2.2.length (dgF n_6.2.2.2.2), Blk.arrI .i64 n.2.2.2.2.length (dgF n.2.2.2.2), Blk.arrI .i64 n_8.2.2.2.2.length (dgF n_8.2.2.2.2)]))) (.ex (fun (x : Tp × List (List UInt8) × Int × List UInt8 × List Int) => eqL [AV.ptr 0 0, AV.str h, AV.osl 1 1 0 2] [AV.ptr 0 0, AV.str x.2.2.2.1, AV.osl 1 1 0 x.2.2.2.2.length] ∧ eqH [.box [AV.int .i64 n, AV.sl ops.length 4 (opG ops), AV.sl inp.length 1 (ratG inp), AV.int .i64 0], .arr 2 1 (zf 1 [AV.int .i64 i, AV.int .i64 k])] [.box [AV.int .i64 x.1.n, AV.sl x.1.ops.length 4 (opG x.1.ops), AV.sl x.2.1.length 1 (ratG x.2.1), AV.int .i64 x.2.2.1], Blk.arrI .i64 x.2.2.2.2.length (dgF x.2.2.2.2)] ∧ 2 = 2 ∧ zh x.1 = 0 ∧ (↑x.2.1.length : Int) = Tp.n x.1 ∧ allQ x.2.1 ∧ errR x.2.2.2.1 = 0 ∧ (∀ (i : Int), i ∈ x.2.2.2.2 → (0 : Int) ≤ i ∧ i < Tp.n x.1) ∧ x.2.2.2.2.length < 1099511627776) fun n => .all (fun (r : List UInt8 × Int) => r = stpA n.2.2.1 (atT n.1 n.2.1 n.2.2.2.1 n.2.2.2.2)) fun n_4 => .ex (fun (x : Tp × List (List UInt8) × Int × List UInt8 × List Int) => eqL [AV.ptr 0 0, AV.str h, AV.osl 1 1 0 1] [AV.ptr 0 0, AV.str x.2.2.2.1, AV.osl 1 1 0 x.2.2.2.2.length] ∧ eqH [.box [AV.int .i64 n.1.n, AV.sl n.1.ops.length 4 (opG n.1.ops), AV.sl n.2.1.length 1 (ratG n.2.1), AV.int .i64 n_4.2], .arr 1 1 (zf 1 [AV.int .i64 i])] [.box [AV.int .i64 x.1.n, AV.sl x.1.ops.length 4 (opG x.1.ops), AV.sl x.2.1.length 1 (ratG x.2.1), AV.int .i64 x.2.2.1], Blk.arrI .i64 x.2.2.2.2.length (dgF x.2.2.2.2)] ∧ 2 = 2 ∧ zh x.1 = 0 ∧ (↑x.2.1.length : Int) = Tp.n x.1 ∧ allQ x.2.1 ∧ errR x.2.2.2.1 = 0 ∧ (∀ (i : Int), i ∈ x.2.2.2.2 → (0 : Int) ≤ i ∧ i < Tp.n x.1) ∧ x.2.2.2.2.length < 1099511627776) fun n_5 => .all (fun (r : List UInt8 × Int) => r = stpA n_5.2.2.1 (atT n_5.1 n_5.2.1 n_5.2.2.2.1 n_5.2.2.2.2)) fun n_6 => .ex (fun (x : Tp × List (List UInt8) × Int × List UInt8 × List Int) => eqL [AV.ptr 0 0, AV.str h, AV.osl 1 1 0 1] [AV.ptr 0 0, AV.str x.2.2.2.1, AV.osl 1 1 0 x.2.2.2.2.length] ∧ eqH [.box [AV.int .i64 n_5.1.n, AV.sl n_5.1.ops.length 4 (opG n_5.1.ops), AV.sl n_5.2.1.length 1 (ratG n_5.2.1), AV.int .i64 n_6.2], .arr 1 1 (zf 1 [AV.int .i64 k])] [.box [AV.int .i64 x.1.n, AV.sl x.1.ops.length 4 (opG x.1.ops), AV.sl x.2.1.length 1 (ratG x.2.1), AV.int .i64 x.2.2.1], Blk.arrI .i64 x.2.2.2.2.length (dgF x.2.2.2.2)] ∧ 2 = 2 ∧ zh x.1 = 0 ∧ (↑x.2.1.length : Int) = Tp.n x.1 ∧ allQ x.2.1 ∧ errR x.2.2.2.1 = 0 ∧ (∀ (i : Int), i ∈ x.2.2.2.2 → (0 : Int) ≤ i ∧ i < Tp.n x.1) ∧ x.2.2.2.2.length < 1099511627776) fun n_7 => .all (fun (r : List UInt8 × Int) => r = stpA n_7.2.2.1 (atT n_7.1 n_7.2.1 n_7.2.2.2.1 n_7.2.2.2.2)) fun n_8 => .ex (fun (x : Tp × List (List UInt8) × Int × Int × List UInt8 × List UInt8) => eqL [AV.ptr 0 0, AV.fn 17 [] [], AV.str n_4.1, AV.str n_6.1] [AV.ptr 0 0, AV.fn (opN x.2.2.2.1) [] [], AV.str x.2.2.2.2.1, AV.str x.2.2.2.2.2] ∧ eqH [.box [AV.int .i64 n_7.1.n, AV.sl n_7.1.ops.length 4 (opG n_7.1.ops), AV.sl n_7.2.1.length 1 (ratG n_7.2.1), AV.int .i64 n_8.2]] [.box [AV.int .i64 x.1.n, AV.sl x.1.ops.length 4 (opG x.1.ops), AV.sl x.2.1.length 1 (ratG x.2.1), AV.int .i64 x.2.2.1]] ∧ 1 = 1 ∧ (x.2.2.2.1 = 3 ∨ x.2.2.2.1 = 4 ∨ x.2.2.2.1 = 5 ∨ x.2.2.2.1 = 6) ∧ x.2.2.2.2.1.length < 2305843009213693952 ∧ x.2.2.2.2.2.length < 2305843009213693952) fun n_9 => .all (fun (r : List UInt8 × Int) => r = stp n_9.2.2.1 (arR n_9.2.2.2.1) n_9.2.2.2.2.1 n_9.2.2.2.2.2) fun n_10 => .ex (fun (x : Tp × List (List UInt8) × Int × Int × List UInt8 × List UInt8) => eqL [AV.ptr 0 0, AV.fn 17 [] [], AV.str n_10.1, AV.str n_8.1] [AV.ptr 0 0, AV.fn (opN x.2.2.2.1) [] [], AV.str x.2.2.2.2.1, AV.str x.2.2.2.2.2] ∧ eqH [.box [AV.int .i64 n_9.1.n, AV.sl n_9.1.ops.length 4 (opG n_9.1.ops), AV.sl n_9.2.1.length 1 (ratG n_9.2.1), AV.int .i64 n_10.2]] [.box [AV.int .i64 x.1.n, AV.sl x.1.ops.length 4 (opG x.1.ops), AV.sl x.2.1.length 1 (ratG x.2.1), AV.int .i64 x.2.2.1]] ∧ 1 = 1 ∧ (x.2.2.2.1 = 3 ∨ x.2.2.2.1 = 4 ∨ x.2.2.2.1 = 5 ∨ x.2.2.2.1 = 6) ∧ x.2.2.2.2.1.length < 2305843009213693952 ∧ x.2.2.2.2.2.length < 2305843009213693952) fun n_11 => .all (fun (r : List UInt8 × Int) => r = stp n_11.2.2.1 (arR n_11.2.2.2.1) n_11.2.2.2.2.1 n_11.2.2.2.2.2) fun n_12 => .ex (fun (x : Tp × List (List UInt8) × Int × Int × List UInt8 × List UInt8) => eqL [AV.ptr 0 0, AV.fn 24 [] [], AV.str n_12.1, AV.str v] [AV.ptr 0 0, AV.fn (opN x.2.2.2.1) [] [], AV.str x.2.2.2.2.1, AV.str x.2.2.2.2.2] ∧ eqH [.box [AV.int .i64 n_11.1.n, AV.sl n_11.1.ops.length 4 (opG n_11.1.ops), AV.sl n_11.2.1.length 1 (ratG n_11.2.1), AV.int .i64 n_12.2]] [.box [AV.int .i64 x.1.n, AV.sl x.1.ops.length 4 (opG x.1.ops), AV.sl x.2.1.length 1 (ratG x.2.1), AV.int .i64 x.2.2.1]] ∧ 1 = 1 ∧ (x.2.2.2.1 = 3 ∨ x.2.2.2.1 = 4 ∨ x.2.2.2.1 = 5 ∨ x.2.2.2.1 = 6) ∧ x.2.2.2.2.1.length < 2305843009213693952 ∧ x.2.2.2.2.2.length < 2305843009213693952) fun n_13 => .all (fun (r : List UInt8 × Int) => r = stp n_13.2.2.1 (arR n_13.2.2.2.1) n_13.2.2.2.2.1 n_13.2.2.2.2.2) fun n_14 => .ex (fun (x : Tp × List (List UInt8) × Int × Int × List UInt8 × List UInt8) => eqL [AV.ptr 0 0, AV.fn 27 [] [], AV.str h, AV.str h] [AV.ptr 0 0, AV.fn (opN x.2.2.2.1) [] [], AV.str x.2.2.2.2.1, AV.str x.2.2.2.2.2] ∧ eqH [.box [AV.int .i64 n_13.1.n, AV.sl n_13.1.ops.length 4 (opG n_13.1.ops), AV.sl n_13.2.1.length 1 (ratG n_13.2.1), AV.int .i64 n_14.2]] [.box [AV.int .i64 x.1.n, AV.sl x.1.ops.length 4 (opG x.1.ops), AV.sl x.2.1.length 1 (ratG x.2.1), AV.int .i64 x.2.2.1]] ∧ 1 = 1 ∧ (x.2.2.2.1 = 3 ∨ x.2.2.2.1 = 4 ∨ x.2.2.2.1 = 5 ∨ x.2.2.2.1 = 6) ∧ x.2.2.2.2.1.length < 2305843009213693952 ∧ x.2.2.2.2.2.length < 2305843009213693952) fun n_15 => .all (fun (r : List UInt8 × Int) => r = stp n_15.2.2.1 (arR n_15.2.2.2.1) n_15.2.2.2.2.1 n_15.2.2.2.2.2) fun n_16 => .leaf (.ret [.str n_14.1, .str n_16.1] [.box [.int .i64 n_15.1.n, .sl n_15.1.ops.length 4 (opG n_15.1.ops), .sl n_15.2.1.length 1 (ratG n_15.2.1), .int .i64 n_16.2], .box [.str h], .box [.int .i64 i], .box [.int .i64 k], Blk.arrI .i64 n_5.2.2.2.2.length (dgF n_5.2.2.2.2), Blk.arrI .i64 n_7.2.2.2.2.length (dgF n_7.2.2.2.2), Blk.arrI .i64 n.2.2.2.2.length (dgF n.2.2.2.2)]))) (.all (fun (x : Bool) => True) fun n_3 => .ite n_3 (.all (fun (x : Bool) => True) fun n_4 => .ite n_4 (.ex (fun (x : Tp × List (List UInt8) × Int × List UInt8 × List Int) => eqL [AV.ptr 0 0, AV.str h, AV.osl 1 1 0 2] [AV.ptr 0 0, AV.str x.2.2.2.1, AV.osl 1 1 0 x.2.2.2.2.length] ∧ eqH [.box [AV.int .i64 n, AV.sl ops.length 4 (opG ops), AV.sl inp.length 1 (ratG inp), AV.int .i64 0], .arr 2 1 (zf 1 [AV.int .i64 i, AV.int .i64 k])] [.box [AV.int .i64 x.1.n, AV.sl x.1.ops.length 4 (opG x.1.ops), AV.sl x.2.1.length 1 (ratG x.2.1), AV.int .i64 x.2.2.1], Blk.arrI .i64 x.2.2.2.2.length (dgF x.2.2.2.2)] ∧ 2 = 2 ∧ zh x.1 = 0 ∧ (↑x.2.1.length : Int) = Tp.n x.1 ∧ allQ x.2.1 ∧ errR x.2.2.2.1 = 0 ∧ (∀ (i : Int), i ∈ x.2.2.2.2 → (0 : Int) ≤ i ∧ i < Tp.n x.1) ∧ x.2.2.2.2.length < 1099511627776) fun n => .all (fun (r : List UInt8 × Int) => r = stpA n.2.2.1 (atT n.1 n.2.1 n.2.2.2.1 n.2.2.2.2)) fun n_5 => .ex (fun (x : Tp × List (List UInt8) × Int × List UInt8 × List Int) => eqL [AV.ptr 0 0, AV.str h, AV.osl 1 1 0 1] [AV.ptr 0 0, AV.str x.2.2.2.1, AV.osl 1 1 0 x.2.2.2.2.length] ∧ eqH [.box [AV.int .i64 n.1.n, AV.sl n.1.ops.length 4 (opG n.1.ops), AV.sl n.2.1.length 1 (ratG n.2.1), AV.int .i64 n_5.2], .arr 1 1 (zf 1 [AV.int .i64 i])] [.box [AV.int .i64 x.1.n, AV.sl x.1.ops.length 4 (opG x.1.ops), AV.sl x.2.1.length 1 (ratG x.2.1), AV.int .i64 x.2.2.1], Blk.arrI .i64 x.2.2.2.2.length (dgF x.2.2.2.2)] ∧ 2 = 2 ∧ zh x.1 = 0 ∧ (↑x.2.1.length : Int) = Tp.n x.1 ∧ allQ x.2.1 ∧ errR x.2.2.2.1 = 0 ∧ (∀ (i : Int), i ∈ x.2.2.2.2 → (0 : Int) ≤ i ∧ i < Tp.n x.1) ∧ x.2.2.2.2.length < 1099511627776) fun n_6 => .all (fun (r : List UInt8 × Int) => r = stpA n_6.2.2.1 (atT n_6.1 n_6.2.1 n_6.2.2.2.1 n_6.2.2.2.2)) fun n_7 => .ex (fun (x : Tp × List (List UInt8) × Int × List UInt8 × List Int) => eqL [AV.ptr 0 0, AV.str h, AV.osl 1 1 0 1] [AV.ptr 0 0, AV.str x.2.2.2.1, AV.osl 1 1 0 x.2.2.2.2.length] ∧ eqH [.box [AV.int .i64 n_6.1.n, AV.sl n_6.1.ops.length 4 (opG n_6.1.ops), AV.sl n_6.2.1.length 1 (ratG n_6.2.1), AV.int .i64 n_7.2], .arr 1 1 (zf 1 [AV.int .i64 k])] [.box [AV.int .i64 x.1.n, AV.sl x.1.ops.length 4 (opG x.1.ops), AV.sl x.2.1.length 1 (ratG x.2.1), AV.int .i64 x.2.2.1], Blk.arrI .i64 x.2.2.2.2.length (dgF x.2.2.2.2)] ∧ 2 = 2 ∧ zh x.1 = 0 ∧ (↑x.2.1.length : Int) = Tp.n x.1 ∧ allQ x.2.1 ∧ errR x.2.2.2.1 = 0 ∧ (∀ (i : Int), i ∈ x.2.2.2.2 → (0 : Int) ≤ i ∧ i < Tp.n x.1) ∧ x.2.2.2.2.length < 1099511627776) fun n_8 => .all (fun (r : List UInt8 × Int) => r = stpA n_8.2.2.1 (atT n_8.1 n_8.2.1 n_8.2.2.2.1 n_8.2.2.2.2)) fun n_9 => .ex (fun (x : Tp × List (List UInt8) × Int × Int × List UInt8 × List UInt8) => eqL [AV.ptr 0 0, AV.fn 17 [] [], AV.str n_5.1, AV.str n_7.1] [AV.ptr 0 0, AV.fn (opN x.2.2.2.1) [] [], AV.str x.2.2.2.2.1, AV.str x.2.2.2.2.2] ∧ eqH [.box [AV.int .i64 n_8.1.n, AV.sl n_8.1.ops.length 4 (opG n_8.1.ops), AV.sl n_8.2.1.length 1 (ratG n_8.2.1), AV.int .i64 n_9.2]] [.box [AV.int .i64 x.1.n, AV.sl x.1.ops.length 4 (opG x.1.ops), AV.sl x.2.1.length 1 (ratG x.2.1), AV.int .i64 x.2.2.1]] ∧ 1 = 1 ∧ (x.2.2.2.1 = 3 ∨ x.2.2.2.1 = 4 ∨ x.2.2.2.1 = 5 ∨ x.2.2.2.1 = 6) ∧ x.2.2.2.2.1.length < 2305843009213693952 ∧ x.2.2.2.2.2.length < 2305843009213693952) fun n_10 => .all (fun (r : List UInt8 × Int) => r = stp n_10.2.2.1 (arR n_10.2.2.2.1) n_10.2.2.2.2.1 n_10.2.2.2.2.2) fun n_11 => .ex (fun (x : Tp × List (List UInt8) × Int × Int × List UInt8 × List UInt8) => eqL [AV.ptr 0 0, AV.fn 17 [] [], AV.str n_11.1, AV.str n_9.1] [AV.ptr 0 0, AV.fn (opN x.2.2.2.1) [] [], AV.str x.2.2.2.2.1, AV.str x.2.2.2.2.2] ∧ eqH [.box [AV.int .i64 n_10.1.n, AV.sl n_10.1.ops.length 4 (opG n_10.1.ops), AV.sl n_10.2.1.length 1 (ratG n_10.2.1), AV.int .i64 n_11.2]] [.box [AV.int .i64 x.1.n, AV.sl x.1.ops.length 4 (opG x.1.ops), AV.sl x.2.1.length 1 (ratG x.2.1), AV.int .i64 x.2.2.1]] ∧ 1 = 1 ∧ (x.2.2.2.1 = 3 ∨ x.2.2.2.1 = 4 ∨ x.2.2.2.1 = 5 ∨ x.2.2.2.1 = 6) ∧ x.2.2.2.2.1.length < 2305843009213693952 ∧ x.2.2.2.2.2.length < 2305843009213693952) fun n_12 => .all (fun (r : List UInt8 × Int) => r = stp n_12.2.2.1 (arR n_12.2.2.2.1) n_12.2.2.2.2.1 n_12.2.2.2.2.2) fun n_13 => .ex (fun (x : Tp × List (List UInt8) × Int × Int × List UInt8 × List UInt8) => eqL [AV.ptr 0 0, AV.fn 24 [] [], AV.str n_13.1, AV.str v] [AV.ptr 0 0, AV.fn (opN x.2.2.2.1) [] [], AV.str x.2.2.2.2.1, AV.str x.2.2.2.2.2] ∧ eqH [.box [AV.int .i64 n_12.1.n, AV.sl n_12.1.ops.length 4 (opG n_12.1.ops), AV.sl n_12.2.1.length 1 (ratG n_12.2.1), AV.int .i64 n_13.2]] [.box [AV.int .i64 x.1.n, AV.sl x.1.ops.length 4 (opG x.1.ops), AV.sl x.2.1.length 1 (ratG x.2.1), AV.int .i64 x.2.2.1]] ∧ 1 = 1 ∧ (x.2.2.2.1 = 3 ∨ x.2.2.2.1 = 4 ∨ x.2.2.2.1 = 5 ∨ x.2.2.2.1 = 6) ∧ x.2.2.2.2.1.length < 2305843009213693952 ∧ x.2.2.2.2.2.length < 2305843009213693952) fun n_14 => .all (fun (r : List UInt8 × Int) => r = stp n_14.2.2.1 (arR n_14.2.2.2.1) n_14.2.2.2.2.1 n_14.2.2.2.2.2) fun n_15 => .ex (fun (x : Tp × List (List UInt8) × Int × Int × List UInt8 × List UInt8) => eqL [AV.ptr 0 0, AV.fn 27 [] [], AV.str h, AV.str h] [AV.ptr 0 0, AV.fn (opN x.2.2.2.1) [] [], AV.str x.2.2.2.2.1, AV.str x.2.2.2.2.2] ∧ eqH [.box [AV.int .i64 n_14.1.n, AV.sl n_14.1.ops.length 4 (opG n_14.1.ops), AV.sl n_14.2.1.length 1 (ratG n_14.2.1), AV.int .i64 n_15.2]] [.box [AV.int .i64 x.1.n, AV.sl x.1.ops.length 4 (opG x.1.ops), AV.sl x.2.1.length 1 (ratG x.2.1), AV.int .i64 x.2.2.1]] ∧ 1 = 1 ∧ (x.2.2.2.1 = 3 ∨ x.2.2.2.1 = 4 ∨ x.2.2.2.1 = 5 ∨ x.2.2.2.1 = 6) ∧ x.2.2.2.2.1.length < 2305843009213693952 ∧ x.2.2.2.2.2.length < 2305843009213693952) fun n_16 => .all (fun (r : List UInt8 × Int) => r = stp n_16.2.2.1 (arR n_16.2.2.2.1) n_16.2.2.2.2.1 n_16.2.2.2.2.2) fun n_17 => .leaf (.ret [.str n_15.1, .str n_17.1] [.box [.int .i64 n_16.1.n, .sl n_16.1.ops.length 4 (opG n_16.1.ops), .sl n_16.2.1.length 1 (ratG n_16.2.1), .int .i64 n_17.2], .box [.str h], .box [.int .i64 i], .box [.int .i64 k], Blk.arrI .i64 n_8.2.2.2.2.length (dgF n_8.2.2.2.2), Blk.arrI .i64 n.2.2.2.2.length (dgF n.2.2.2.2), Blk.arrI .i64 n_6.2.2.2.2.length (dgF n_6.2.2.2.2)])) (.ex (fun (x : Tp × List (List UInt8) × Int × List UInt8 × List Int) => eqL [AV.ptr 0 0, AV.str h, AV.osl 1 1 0 2] [AV.ptr 0 0, AV.str x.2.2.2.1, AV.osl 1 1 0 x.2.2.2.2.length] ∧ eqH [.box [AV.int .i64 n, AV.sl ops.length 4 (opG ops), AV.sl inp.length 1 (ratG inp), AV.int .i64 0], .arr 2 1 (zf 1 [AV.int .i64 i, AV.int .i64 k])] [.box [AV.int .i64 x.1.n, AV.sl x.1.ops.length 4 (opG x.1.ops), AV.sl x.2.1.length 1 (ratG x.2.1), AV.int .i64 x.2.2.1], Blk.arrI .i64 x.2.2.2.2.length (dgF x.2.2.2.2)] ∧ 2 = 2 ∧ zh x.1 = 0 ∧ (↑x.2.1.length : Int) = Tp.n x.1 ∧ allQ x.2.1 ∧ errR x.2.2.2.1 = 0 ∧ (∀ (i : Int), i ∈ x.2.2.2.2 → (0 : Int) ≤ i ∧ i < Tp.n x.1) ∧ x.2.2.2.2.length < 1099511627776) fun n => .all (fun (r : List UInt8 × Int) => r = stpA n.2.2.1 (atT n.1 n.2.1 n.2.2.2.1 n.2.2.2.2)) fun n_5 => .ex (fun (x : Tp × List (List UInt8) × Int × List UInt8 × List Int) => eqL [AV.ptr 0 0, AV.str h, AV.osl 1 1 0 1] [AV.ptr 0 0, AV.str x.2.2.2.1, AV.osl 1 1 0 x.2.2.2.2.length] ∧ eqH [.box [AV.int .i64 n.1.n, AV.sl n.1.ops.length 4 (opG n.1.ops), AV.sl n.2.1.length 1 (ratG n.2.1), AV.int .i64 n_5.2], .arr 1 1 (zf 1 [AV.int .i64 i])] [.box [AV.int .i64 x.1.n, AV.sl x.1.ops.length 4 (opG x.1.ops), AV.sl x.2.1.length 1 (ratG x.2.1), AV.int .i64 x.2.2.1], Blk.arrI .i64 x.2.2.2.2.length (dgF x.2.2.2.2)] ∧ 2 = 2 ∧ zh x.1 = 0 ∧ (↑x.2.1.length : Int) = Tp.n x.1 ∧ allQ x.2.1 ∧ errR x.2.2.2.1 = 0 ∧ (∀ (i : Int), i ∈ x.2.2.2.2 → (0 : Int) ≤ i ∧ i < Tp.n x.1) ∧ x.2.2.2.2.length < 1099511627776) fun n_6 => .all (fun (r : List UInt8 × Int) => r = stpA n_6.2.2.1 (atT n_6.1 n_6.2.1 n_6.2.2.2.1 n_6.2.2.2.2)) fun n_7 => .ex (fun (x : Tp × List (List UInt8) × Int × List UInt8 × List Int) => eqL [AV.ptr 0 0, AV.str h, AV.osl 1 1 0 1] [AV.ptr 0 0, AV.str x.2.2.2.1, AV.osl 1 1 0 x.2.2.2.2.length] ∧ eqH [.box [AV.int .i64 n_6.1.n, AV.sl n_6.1.ops.length 4 (opG n_6.1.ops), AV.sl n_6.2.1.length 1 (ratG n_6.2.1), AV.int .i64 n_7.2], .arr 1 1 (zf 1 [AV.int .i64 k])] [.box [AV.int .i64 x.1.n, AV.sl x.1.ops.length 4 (opG x.1.ops), AV.sl x.2.1.length 1 (ratG x.2.1), AV.int .i64 x.2.2.1], Blk.arrI .i64 x.2.2.2.2.length (dgF x.2.2.2.2)] ∧ 2 = 2 ∧ zh x.1 = 0 ∧ (↑x.2.1.length : Int) = Tp.n x.1 ∧ allQ x.2.1 ∧ errR x.2.2.2.1 = 0 ∧ (∀ (i : Int), i ∈ x.2.2.2.2 → (0 : Int) ≤ i ∧ i < Tp.n x.1) ∧ x.2.2.2.2.length < 1099511627776) fun n_8 => .all (fun (r : List UInt8 × Int) => r = stpA n_8.2.2.1 (atT n_8.1 n_8.2.1 n_8.2.2.2.1 n_8.2.2.2.2)) fun n_9 => .ex (fun (x : Tp × List (List UInt8) × Int × Int × List UInt8 × List UInt8) => eqL [AV.ptr 0 0, AV.fn 17 [] [], AV.str n_5.1, AV.str n_7.1] [AV.ptr 0 0, AV.fn (opN x.2.2.2.1) [] [], AV.str x.2.2.2.2.1, AV.str x.2.2.2.2.2] ∧ eqH [.box [AV.int .i64 n_8.1.n, AV.sl n_8.1.ops.length 4 (opG n_8.1.ops), AV.sl n_8.2.1.length 1 (ratG n_8.2.1), AV.int .i64 n_9.2]] [.box [AV.int .i64 x.1.n, AV.sl x.1.ops.length 4 (opG x.1.ops), AV.sl x.2.1.length 1 (ratG x.2.1), AV.int .i64 x.2.2.1]] ∧ 1 = 1 ∧ (x.2.2.2.1 = 3 ∨ x.2.2.2.1 = 4 ∨ x.2.2.2.1 = 5 ∨ x.2.2.2.1 = 6) ∧ x.2.2.2.2.1.length < 2305843009213693952 ∧ x.2.2.2.2.2.length < 2305843009213693952) fun n_10 => .all (fun (r : List UInt8 × Int) => r = stp n_10.2.2.1 (arR n_10.2.2.2.1) n_10.2.2.2.2.1 n_10.2.2.2.2.2) fun n_11 => .ex (fun (x : Tp × List (List UInt8) × Int × Int × List UInt8 × List UInt8) => eqL [AV.ptr 0 0, AV.fn 17 [] [], AV.str n_11.1, AV.str n_9.1] [AV.ptr 0 0, AV.fn (opN x.2.2.2.1) [] [], AV.str x.2.2.2.2.1, AV.str x.2.2.2.2.2] ∧ eqH [.box [AV.int .i64 n_10.1.n, AV.sl n_10.1.ops.length 4 (opG n_10.1.ops), AV.sl n_10.2.1.length 1 (ratG n_10.2.1), AV.int .i64 n_11.2]] [.box [AV.int .i64 x.1.n, AV.sl x.1.ops.length 4 (opG x.1.ops), AV.sl x.2.1.length 1 (ratG x.2.1), AV.int .i64 x.2.2.1]] ∧ 1 = 1 ∧ (x.2.2.2.1 = 3 ∨ x.2.2.2.1 = 4 ∨ x.2.2.2.1 = 5 ∨ x.2.2.2.1 = 6) ∧ x.2.2.2.2.1.length < 2305843009213693952 ∧ x.2.2.2.2.2.length < 2305843009213693952) fun n_12 => .all (fun (r : List UInt8 × Int) => r = stp n_12.2.2.1 (arR n_12.2.2.2.1) n_12.2.2.2.2.1 n_12.2.2.2.2.2) fun n_13 => .ex (fun (x : Tp × List (List UInt8) × Int × Int × List UInt8 × List UInt8) => eqL [AV.ptr 0 0, AV.fn 24 [] [], AV.str n_13.1, AV.str v] [AV.ptr 0 0, AV.fn (opN x.2.2.2.1) [] [], AV.str x.2.2.2.2.1, AV.str x.2.2.2.2.2] ∧ eqH [.box [AV.int .i64 n_12.1.n, AV.sl n_12.1.ops.length 4 (opG n_12.1.ops), AV.sl n_12.2.1.length 1 (ratG n_12.2.1), AV.int .i64 n_13.2]] [.box [AV.int .i64 x.1.n, AV.sl x.1.ops.length 4 (opG x.1.ops), AV.sl x.2.1.length 1 (ratG x.2.1), AV.int .i64 x.2.2.1]] ∧ 1 = 1 ∧ (x.2.2.2.1 = 3 ∨ x.2.2.2.1 = 4 ∨ x.2.2.2.1 = 5 ∨ x.2.2.2.1 = 6) ∧ x.2.2.2.2.1.length < 2305843009213693952 ∧ x.2.2.2.2.2.length < 2305843009213693952) fun n_14 => .all (fun (r : List UInt8 × Int) => r = stp n_14.2.2.1 (arR n_14.2.2.2.1) n_14.2.2.2.2.1 n_14.2.2.2.2.2) fun n_15 => .ex (fun (x : Tp × List (List UInt8) × Int × Int × List UInt8 × List UInt8) => eqL [AV.ptr 0 0, AV.fn 27 [] [], AV.str h, AV.str h] [AV.ptr 0 0, AV.fn (opN x.2.2.2.1) [] [], AV.str x.2.2.2.2.1, AV.str x.2.2.2.2.2] ∧ eqH [.box [AV.int .i64 n_14.1.n, AV.sl n_14.1.ops.length 4 (opG n_14.1.ops), AV.sl n_14.2.1.length 1 (ratG n_14.2.1), AV.int .i64 n_15.2]] [.box [AV.int .i64 x.1.n, AV.sl x.1.ops.length 4 (opG x.1.ops), AV.sl x.2.1.length 1 (ratG x.2.1), AV.int .i64 x.2.2.1]] ∧ 1 = 1 ∧ (x.2.2.2.1 = 3 ∨ x.2.2.2.1 = 4 ∨ x.2.2.2.1 = 5 ∨ x.2.2.2.1 = 6) ∧ x.2.2.2.2.1.length < 2305843009213693952 ∧ x.2.2.2.2.2.length < 2305843009213693952) fun n_16 => .all (fun (r : List UInt8 × Int) => r = stp n_16.2.2.1 (arR n_16.2.2.2.1) n_16.2.2.2.2.1 n_16.2.2.2.2.2) fun n_17 => .leaf (.ret [.str n_15.1, .str n_17.1] [.box [.int .i64 n_16.1.n, .sl n_16.1.ops.length 4 (opG n_16.1.ops), .sl n_16.2.1.length 1 (ratG n_16.2.1), .int .i64 n_17.2], .box [.str h], .box [.int .i64 i], .box [.int .i64 k], Blk.arrI .i64 n_8.2.2.2.2.length (dgF n_8.2.2.2.2), Blk.arrI .i64 n.2.2.2.2.length (dgF n.2.2.2.2), Blk.arrI .i64 n_6.2.2.2.2.length (dgF n_6.2.2.2.2)]))) (.ex (fun (x : Tp × List (List UInt8) × Int × List UInt8 × List Int) => eqL [AV.ptr 0 0, AV.str h, AV.osl 1 1 0 2] [AV.ptr 0 0, AV.str x.2.2.2.1, AV.osl 1 1 0 x.2.2.2.2.length] ∧ eqH [.box [AV.int .i64 n, AV.sl ops.length 4 (opG ops), AV.sl inp.length 1 (ratG inp), AV.int .i64 0], .arr 2 1 (zf 1 [AV.int .i64 i, AV.int .i64 k])] [.box [AV.int .i64 x.1.n, AV.sl x.1.ops.length 4 (opG x.1.ops), AV.sl x.2.1.length 1 (ratG x.2.1), AV.int .i64 x.2.2.1], Blk.arrI .i64 x.2.2.2.2.length (dgF x.2.2.2.2)] ∧ 2 = 2 ∧ zh x.1 = 0 ∧ (↑x.2.1.length : Int) = Tp.n x.1 ∧ allQ x.2.1 ∧ errR x.2.2.2.1 = 0 ∧ (∀ (i : Int), i ∈ x.2.2.2.2 → (0 : Int) ≤ i ∧ i < Tp.n x.1) ∧ x.2.2.2.2.length < 1099511627776) fun n => .all (fun (r : List UInt8 × Int) => r = stpA n.2.2.1 (atT n.1 n.2.1 n.2.2.2.1 n.2.2.2.2)) fun n_4 => .ex (fun (x : Tp × List (List UInt8) × Int × List UInt8 × List Int) => eqL [AV.ptr 0 0, AV.str h, AV.osl 1 1 0 1] [AV.ptr 0 0, AV.str x.2.2.2.1, AV.osl 1 1 0 x.2.2.2.2.length] ∧ eqH [.box [AV.int .i64 n.1.n, AV.sl n.1.ops.length 4 (opG n.1.ops), AV.sl n.2.1.length 1 (ratG n.2.1), AV.int .i64 n_4.2], .arr 1 1 (zf 1 [AV.int .i64 i])] [.box [AV.int .i64 x.1.n, AV.sl x.1.ops.length 4 (opG x.1.ops), AV.sl x.2.1.length 1 (ratG x.2.1), AV.int .i64 x.2.2.1], Blk.arrI .i64 x.2.2.2.2.length (dgF x.2.2.2.2)] ∧ 2 = 2 ∧ zh x.1 = 0 ∧ (↑x.2.1.length : Int) = Tp.n x.1 ∧ allQ x.2.1 ∧ errR x.2.2.2.1 = 0 ∧ (∀ (i : Int), i ∈ x.2.2.2.2 → (0 : Int) ≤ i ∧ i < Tp.n x.1) ∧ x.2.2.2.2.length < 1099511627776) fun n_5 => .all (fun (r : List UInt8 × Int) => r = stpA n_5.2.2.1 (atT n_5.1 n_5.2.1 n_5.2.2.2.1 n_5.2.2.2.2)) fun n_6 => .ex (fun (x : Tp × List (List UInt8) × Int × List UInt8 × List Int) => eqL [AV.ptr 0 0, AV.str h, AV.osl 1 1 0 1] [AV.ptr 0 0, AV.str x.2.2.2.1, AV.osl 1 1 0 x.2.2.2.2.length] ∧ eqH [.box [AV.int .i64 n_5.1.n, AV.sl n_5.1.ops.length 4 (opG n_5.1.ops), AV.sl n_5.2.1.length 1 (ratG n_5.2.1), AV.int .i64 n_6.2], .arr 1 1 (zf 1 [AV.int .i64 k])] [.box [AV.int .i64 x.1.n, AV.sl x.1.ops.length 4 (opG x.1.ops), AV.sl x.2.1.length 1 (ratG x.2.1), AV.int .i64 x.2.2.1], Blk.arrI .i64 x.2.2.2.2.length (dgF x.2.2.2.2)] ∧ 2 = 2 ∧ zh x.1 = 0 ∧ (↑x.2.1.length : Int) = Tp.n x.1 ∧ allQ x.2.1 ∧ errR x.2.2.2.1 = 0 ∧ (∀ (i : Int), i ∈ x.2.2.2.2 → (0 : Int) ≤ i ∧ i < Tp.n x.1) ∧ x.2.2.2.2.length < 1099511627776) fun n_7 => .all (fun (r : List UInt8 × Int) => r = stpA n_7.2.2.1 (atT n_7.1 n_7.2.1 n_7.2.2.2.1 n_7.2.2.2.2)) fun n_8 => .ex (fun (x : Tp × List (List UInt8) × Int × Int × List UInt8 × List UInt8) => eqL [AV.ptr 0 0, AV.fn 17 [] [], AV.str n_4.1, AV.str n_6.1] [AV.ptr 0 0, AV.fn (opN x.2.2.2.1) [] [], AV.str x.2.2.2.2.1, AV.str x.2.2.2.2.2] ∧ eqH [.box [AV.int .i64 n_7.1.n, AV.sl n_7.1.ops.length 4 (opG n_7.1.ops), AV.sl n_7.2.1.length 1 (ratG n_7.2.1), AV.int .i64 n_8.2]] [.box [AV.int .i64 x.1.n, AV.sl x.1.ops.length 4 (opG x.1.ops), AV.sl x.2.1.length 1 (ratG x.2.1), AV.int .i64 x.2.2.1]] ∧ 1 = 1 ∧ (x.2.2.2.1 = 3 ∨ x.2.2.2.1 = 4 ∨ x.2.2.2.1 = 5 ∨ x.2.2.2.1 = 6) ∧ x.2.2.2.2.1.length < 2305843009213693952 ∧ x.2.2.2.2.2.length < 2305843009213693952) fun n_9 => .all (fun (r : List UInt8 × Int) => r = stp n_9.2.2.1 (arR n_9.2.2.2.1) n_9.2.2.2.2.1 n_9.2.2.2.2.2) fun n_10 => .ex (fun (x : Tp × List (List UInt8) × Int × Int × List UInt8 × List UInt8) => eqL [AV.ptr 0 0, AV.fn 17 [] [], AV.str n_10.1, AV.str n_8.1] [AV.ptr 0 0, AV.fn (opN x.2.2.2.1) [] [], AV.str x.2.2.2.2.1, AV.str x.2.2.2.2.2] ∧ eqH [.box [AV.int .i64 n_9.1.n, AV.sl n_9.1.ops.length 4 (opG n_9.1.ops), AV.sl n_9.2.1.length 1 (ratG n_9.2.1), AV.int .i64 n_10.2]] [.box [AV.int .i64 x.1.n, AV.sl x.1.ops.length 4 (opG x.1.ops), AV.sl x.2.1.length 1 (ratG x.2.1), AV.int .i64 x.2.2.1]] ∧ 1 = 1 ∧ (x.2.2.2.1 = 3 ∨ x.2.2.2.1 = 4 ∨ x.2.2.2.1 = 5 ∨ x.2.2.2.1 = 6) ∧ x.2.2.2.2.1.length < 2305843009213693952 ∧ x.2.2.2.2.2.length < 2305843009213693952) fun n_11 => .all (fun (r : List UInt8 × Int) => r = stp n_11.2.2.1 (arR n_11.2.2.2.1) n_11.2.2.2.2.1 n_11.2.2.2.2.2) fun n_12 => .ex (fun (x : Tp × List (List UInt8) × Int × Int × List UInt8 × List UInt8) => eqL [AV.ptr 0 0, AV.fn 24 [] [], AV.str n_12.1, AV.str v] [AV.ptr 0 0, AV.fn (opN x.2.2.2.1) [] [], AV.str x.2.2.2.2.1, AV.str x.2.2.2.2.2] ∧ eqH [.box [AV.int .i64 n_11.1.n, AV.sl n_11.1.ops.length 4 (opG n_11.1.ops), AV.sl n_11.2.1.length 1 (ratG n_11.2.1), AV.int .i64 n_12.2]] [.box [AV.int .i64 x.1.n, AV.sl x.1.ops.length 4 (opG x.1.ops), AV.sl x.2.1.length 1 (ratG x.2.1), AV.int .i64 x.2.2.1]] ∧ 1 = 1 ∧ (x.2.2.2.1 = 3 ∨ x.2.2.2.1 = 4 ∨ x.2.2.2.1 = 5 ∨ x.2.2.2.1 = 6) ∧ x.2.2.2.2.1.length < 2305843009213693952 ∧ x.2.2.2.2.2.length < 2305843009213693952) fun n_13 => .all (fun (r : List UInt8 × Int) => r = stp n_13.2.2.1 (arR n_13.2.2.2.1) n_13.2.2.2.2.1 n_13.2.2.2.2.2) fun n_14 => .ex (fun (x : Tp × List (List UInt8) × Int × Int × List UInt8 × List UInt8) => eqL [AV.ptr 0 0, AV.fn 27 [] [], AV.str h, AV.str h] [AV.ptr 0 0, AV.fn (opN x.2.2.2.1) [] [], AV.str x.2.2.2.2.1, AV.str x.2.2.2.2.2] ∧ eqH [.box [AV.int .i64 n_13.1.n, AV.sl n_13.1.ops.length 4 (opG n_13.1.ops), AV.sl n_13.2.1.length 1 (ratG n_13.2.1), AV.int .i64 n_14.2]] [.box [AV.int .i64 x.1.n, AV.sl x.1.ops.length 4 (opG x.1.ops), AV.sl x.2.1.length 1 (ratG x.2.1), AV.int .i64 x.2.2.1]] ∧ 1 = 1 ∧ (x.2.2.2.1 = 3 ∨ x.2.2.2.1 = 4 ∨ x.2.2.2.1 = 5 ∨ x.2.2.2.1 = 6) ∧ x.2.2.2.2.1.length < 2305843009213693952 ∧ x.2.2.2.2.2.length < 2305843009213693952) fun n_15 => .all (fun (r : List UInt8 × Int) => r = stp n_15.2.2.1 (arR n_15.2.2.2.1) n_15.2.2.2.2.1 n_15.2.2.2.2.2) fun n_16 => .leaf (.ret [.str n_14.1, .str n_16.1] [.box [.int .i64 n_15.1.n, .sl n_15.1.ops.length 4 (opG n_15.1.ops), .sl n_15.2.1.length 1 (ratG n_15.2.1), .int .i64 n_16.2], .box [.str h], .box [.int .i64 i], .box [.int .i64 k], Blk.arrI .i64 n_7.2.2.2.2.length (dgF n_7.2.2.2.2), Blk.arrI .i64 n_5.2.2.2.2.length (dgF n_5.2.2.2.2), Blk.arrI .i64 n.2.2.2.2.length (dgF n.2.2.2.2)]))))) (by kernel_rfl) ?_
 simp only [Tree.holds, ze]
 obtain ⟨v1, v2, v3, v4, v5⟩ := kn hv0
 rw [← hv] at v4
 have hl := zR he0
 have hlv := zR v4
 have hpl : ∀ x ∈ [i, k], 0 ≤ x ∧ x < n := by simp; omega
 have hpl1 : ∀ x ∈ [i], 0 ≤ x ∧ x < n := by simp; omega
 have hpl2 : ∀ x ∈ [k], 0 ≤ x ∧ x < n := by simp; omega
 repeat' (apply qM)
 all_goals (
  refine ⟨(⟨n, ops⟩, inp, 0, h, [i, k]), ⟨by simp, by simp [zc]; exact JS, trivial, v1, v2, v3, he0, hpl, by simp⟩, ⟨_, rfl⟩, ?_⟩
  intro a ha
  replace ha : a = stpA 0 (atT ⟨n, ops⟩ inp h [i, k]) := ha
  have ga : zN a := ha ▸ jZ (qn he0 v1 v2 v3 hpl)
  have la := zy ga)
 repeat' (apply qM)
 all_goals (
  refine ⟨(⟨n, ops⟩, inp, a.2, h, [i]), ⟨by simp, by simp [zc]; exact jE, trivial, v1, v2, v3, he0, hpl1, by simp⟩, ⟨_, rfl⟩, ?_⟩
  intro b hb
  replace hb : b = stpA a.2 (atT ⟨n, ops⟩ inp h [i]) := hb
  have gb : zN b := hb ▸ jZ (qn he0 v1 v2 v3 hpl1)
  have lb := zy gb)
 repeat' (apply qM)
 all_goals (
  refine ⟨(⟨n, ops⟩, inp, b.2, h, [k]), ⟨by simp, by simp [zc]; exact jE, trivial, v1, v2, v3, he0, hpl2, by simp⟩, ⟨_, rfl⟩, ?_⟩
  intro c hc
  replace hc : c = stpA b.2 (atT ⟨n, ops⟩ inp h [k]) := hc
  have gc : zN c := hc ▸ jZ (qn he0 v1 v2 v3 hpl2)
  have lc := zy gc)
 repeat' (apply qM)
 all_goals (
  refine ⟨(⟨n, ops⟩, inp, c.2, 4, a.1, b.1), ⟨by simp [opN], by simp [zc], trivial, .inr (.inl rfl), by show (a.1).length < _; omega, by show (b.1).length < _; omega⟩, ⟨_, rfl⟩, ?_⟩
  intro d hd
  replace hd : d = stp c.2 (arR 4) a.1 b.1 := hd
  have gd : zN d := hd ▸ zG (fun q => ⟨zT ga (xE (hb ▸ xE (hc ▸ q))), zT gb (xE (hc ▸ q))⟩)
  have ld := zy gd)
 repeat' (apply qM)
 all_goals (
  refine ⟨(⟨n, ops⟩, inp, d.2, 4, d.1, c.1), ⟨by simp [opN], by simp [zc], trivial, .inr (.inl rfl), by show (d.1).length < _; omega, by show (c.1).length < _; omega⟩, ⟨_, rfl⟩, ?_⟩
  intro s hs
  replace hs : s = stp d.2 (arR 4) d.1 c.1 := hs
  have gs : zN s := hs ▸ zG (fun q => ⟨zT gd q, zT gc (zb1 (hd ▸ q))⟩)
  have ls := zy gs)
 repeat' (apply qM)
 all_goals (
  refine ⟨(⟨n, ops⟩, inp, s.2, 3, s.1, v), ⟨by simp [opN], by simp [zc], trivial, .inl rfl, by show (s.1).length < _; omega, by show (v).length < _; omega⟩, ⟨_, rfl⟩, ?_⟩
  intro t ht
  replace ht : t = stp s.2 (arR 3) s.1 v := ht
  have gt : zN t := ht ▸ zG (fun q => ⟨zT gs q, v4⟩)
  have lt := zy gt)
 repeat' (apply qM)
 all_goals (
  refine ⟨(⟨n, ops⟩, inp, t.2, 5, h, h), ⟨by simp [opN], by simp [zc], trivial, .inr (.inr (.inl rfl)), by show (h).length < _; omega, by show (h).length < _; omega⟩, ⟨_, rfl⟩, ?_⟩
  intro u hu
  replace hu : u = stp t.2 (arR 5) h h := hu
  have gu : zN u := hu ▸ zG (fun q => ⟨he0, he0⟩)
  have lu := zy gu)
 repeat' (apply qM)
 all_goals (
  have ht2 : t = croE ⟨n, ops⟩ inp i k h := by
   rw [yQ] at ha
   unfold croE croD croC croB croA
   rw [← hv, ← ha, ← hb, ← hc, ← arR4, ← hd, ← hs, ← arR3, ← ht]
  have hu2 : u = croF ⟨n, ops⟩ inp i k h := by
   unfold croF
   rw [← ht2, ← arR5, ← hu]
  have hq := hq (t, u) (by rw [ht2, hu2])
  exact RetR.keep [0, 1, 2, 3] rfl (by simp) (by show ∀ j, j < 4 → _; decide) rfl hq (by simp [resV, exp2, exp1, exp0, ren0, eqA2, eqL1]) (by simp [expH, expB, exp1, exp0, ren0, HCr, HDf, opS, ratS, zc]) rfl)
def HB3 (h : List UInt8) (i k : Int) : Heap := [.arrI .i64 2 (dgF [i, k]), .box [.str h], .box [.int .i64 i], .box [.int .i64 k]]
def Xl : Ctr := ctrT false false (fun p : Tp × List (List UInt8) × List UInt8 × Int × Int => [p.1.av, ratS p.2.1, .str p.2.2.1, .osl 0 1 0 2, .fn 26 [] [.ptr 1 0, .ptr 2 0, .ptr 3 0]])
 (fun p => HB3 p.2.2.1 p.2.2.2.1 p.2.2.2.2)
 (fun p => qe p.1 ∧ qt p.2.1 ∧ p.2.2.1.length < 2 ^ 49) (fun p r => r = croT p.1 p.2.1 p.2.2.2.1 p.2.2.2.2 p.2.2.1)
 (fun p (r : List UInt8 × Int) => (.tup [.str r.1, .int .i64 r.2], HB3 p.2.2.1 p.2.2.2.1 p.2.2.2.2))
def SD3 (inp : List (List UInt8)) (h v : List UInt8) (j : Nat) : KV := [(1, ratS inp), (2, .str h), (4, .fn 26 [] [.ptr 1 0, .ptr 2 0, .ptr 3 0]), (5, .ptr 4 0), (12, .str v), (30, .osl 0 1 0 2), (31, .int .i64 2), (32, .int .i64 (j : Int))]
def HD3 (n : Int) (ops : List TOp) (h : List UInt8) (i k : Int) : Heap := [.arrI .i64 2 (dgF [i, k]), .box [.str h], .box [.int .i64 i], .box [.int .i64 k], .box [.int .i64 n, opS ops]]
noncomputable def GF3 : Nat → Option Ctr := fun f => if f = 28 then some (Xm) else if f = 29 then some (bwI) else if f = 30 then some (km) else if f = 26 then some (ze0) else if f = 16 then some (ddoC) else none
theorem zar : ∀ g c, GF3 g = some c → zg Tryz.prog g c := okIf Wo (okIf XH (okIf wK (okIf zd7 (okIf xr (zp)))))
theorem zce : zg Tryz.prog 14 Xl := by
 refine jw (fn := Tryz.f14) (c := Tryz.f14.body.getD .skip) rfl rfl rfl (fun h => by cases h) fun p hp O w0 σ0 Q hl0 hq => ?_
 obtain ⟨⟨n, ops⟩, inp, h, i, k⟩ := p
 replace hq := hq _ rfl
 obtain ⟨h1, h2, h3⟩ := hp
 simp only at h1 h2 h3 hq
 refine zd.run hmix zar [1, 2, 4, 5, 12, 30, 31, 32] 400 (T := .ex (fun (x : Tp × List (List UInt8)) => eqL [AV.agg [AV.int .i64 n, AV.sl ops.length 4 (opG ops)], AV.sl inp.length 1 (ratG inp)] [AV.agg [AV.int .i64 x.1.n, AV.sl x.1.ops.length 4 (opG x.1.ops)], AV.sl x.2.length 1 (ratG x.2)] ∧ qe x.1 ∧ qt x.2) fun n_1 => .all (fun (r : List UInt8 × Int) => r = zx n_1.1 n_1.2) fun n_2 => .ite (!decide (n_2.2 = 0)) (.leaf (.ret [.str (Array.toList #[]), .int .i64 n_2.2] [Blk.arrI .i64 2 (dgF [i, k]), .box [.str h], .box [.int .i64 i], .box [.int .i64 k], .box [.int .i64 n, .sl ops.length 4 (opG ops)]])) (.leaf (.loop (Prod.fst (lps K14 0)) (Prod.snd (lps K14 0)) [(1, .sl inp.length 1 (ratG inp)), (2, .str h), (4, .fn 26 [] [.ptr 1 0, .ptr 2 0, .ptr 3 0]), (5, .ptr 4 0), (12, .str n_2.1), (30, .osl 0 1 0 2), (31, .int .i64 2), (32, .int .i64 0)] [Blk.arrI .i64 2 (dgF [i, k]), .box [.str h], .box [.int .i64 i], .box [.int .i64 k], .box [.int .i64 n, .sl ops.length 4 (opG ops)]]))) (by kernel_rfl) ?_
 simp only [Tree.holds, ze]
 generalize hF : croT ⟨n, ops⟩ inp i k h = F at hq
 have fin : ∀ (r : List UInt8 × Int) (b : Heap), F = r → RetR Xl 4 Q [.str r.1, .int .i64 r.2] ([.arrI .i64 2 (dgF [i, k]), .box [.str h], .box [.int .i64 i], .box [.int .i64 k]] ++ b) := by
  intro r b hr
  rw [hr] at hq
  exact RetR.keep [0, 1, 2, 3] rfl (by simp) (by show ∀ j, j < 4 → _; decide) rfl hq (by simp [resV, exp2, exp1, exp0, ren0, eqA2, eqL1]) (by simp [expH, expB, exp1, exp0, ren0, HB3, zc]) rfl
 have bad : ∀ (e : Int) (b : Heap), begT ⟨n, ops⟩ inp [i, k] h = e → e ≠ 0 → RetR Xl 4 Q [.str [], .int .i64 e] ([.arrI .i64 2 (dgF [i, k]), .box [.str h], .box [.int .i64 i], .box [.int .i64 k]] ++ b) := by
  intro e b he he0
  refine fin ([], e) b ?_
  rw [← hF]
  unfold croT
  rw [he, if_pos he0]
 refine ⟨(⟨n, ops⟩, inp), ⟨by simp [zc], h1, h2⟩, ⟨_, rfl⟩, ?_⟩
 intro v hv
 replace hv : v = zx ⟨n, ops⟩ inp := hv
 refine ⟨fun g => ?_, fun g => ?_⟩
 ·have g : v.2 ≠ 0 := by simpa using g
  exact bad _ [_] (by unfold begT; rw [← hv, if_pos g]) g
 have g : v.2 = 0 := by simpa using g
 have hbeg : begT ⟨n, ops⟩ inp [i, k] h = if qA ⟨n, ops⟩ [i, k] then (if errR h ≠ 0 then errR h else if h = [48] then 16 else 0) else 2 := by
  unfold begT; rw [← hv, if_neg (fun k => k g)]
 refine zd.loop (ι := {j : Nat // j ≤ 2 ∧ ∀ m, m < j → 0 ≤ dgF [i, k] m ∧ dgF [i, k] m < n}) (fun j => SD3 inp h v.1 j.1) (fun _ => HD3 n ops h i k) (fun j => 2 - j.1) ⟨0, Nat.zero_le _, fun j q => absurd q (Nat.not_lt_zero j)⟩ 0 ?_ ?_ (by kernel_rfl)
 ·exact ⟨by simp [SD3, ratS, zc], by simp [HD3, opS, zc], by kernel_rfl, by show 4 ≤ 4 + 1; decide⟩
 rintro ⟨j, hj, hjp⟩
 refine zd.run hmix zar [1, 2, 4, 5, 12, 30, 31, 32] 400 (T := .ite (decide ((↑j : Int) < 2)) (.side ((0 : Int) ≤ j ∧ (↑j : Int) < 2) (.ite (!bif decide ((0 : Int) ≤ dgF [i, k] (0 + Int.toNat (↑j : Int))) then decide (dgF [i, k] (0 + Int.toNat (↑j : Int)) < n) else false) (.leaf (.ret [.str (Array.toList #[]), .int .i64 2] [Blk.arrI .i64 2 (dgF [i, k]), .box [.str h], .box [.int .i64 i], .box [.int .i64 k], .box [.int .i64 n, .sl ops.length 4 (opG ops)]])) (.side (inR .i64 ((↑j : Int) + (1 : Int))) (.leaf (.back 0 [(1, .sl inp.length 1 (ratG inp)), (2, .str h), (4, .fn 26 [] [.ptr 1 0, .ptr 2 0, .ptr 3 0]), (5, .ptr 4 0), (12, .str v.1), (30, .osl 0 1 0 2), (31, .int .i64 2), (32, .int .i64 ((↑j : Int) + (1 : Int)))] [Blk.arrI .i64 2 (dgF [i, k]), .box [.str h], .box [.int .i64 i], .box [.int .i64 k], .box [.int .i64 n, .sl ops.length 4 (opG ops)]]))))) (.ex (fun (x : List UInt8) => eqL [AV.str h] [AV.str x] ∧ x.length < 4611686018427387904) fun n_1 => .all (fun (r : Int) => r = errR n_1) fun n_2 => .ite (!decide (n_2 = 0)) (.leaf (.ret [.str (Array.toList #[]), .int .i64 n_2] [Blk.arrI .i64 2 (dgF [i, k]), .box [.str h], .box [.int .i64 i], .box [.int .i64 k], .box [.int .i64 n, .sl ops.length 4 (opG ops)]])) (.ite (decide (h = Array.toList #[(48 : UInt8)])) (.leaf (.ret [.str (Array.toList #[]), .int .i64 16] [Blk.arrI .i64 2 (dgF [i, k]), .box [.str h], .box [.int .i64 i], .box [.int .i64 k], .box [.int .i64 n, .sl ops.length 4 (opG ops)]])) (.ex (fun (x : XCr) => eqL [AV.ptr 0 0, AV.str v.1, AV.ptr 1 0, AV.ptr 2 0, AV.ptr 3 0] [AV.ptr 0 0, AV.str (XCr.v x), AV.ptr 1 0, AV.ptr 2 0, AV.ptr 3 0] ∧ eqH [.box [AV.int .i64 n, AV.sl ops.length 4 (opG ops), AV.sl inp.length 1 (ratG inp), AV.int .i64 0], .box [AV.str h], .box [AV.int .i64 i], .box [AV.int .i64 k]] [.box [AV.int .i64 (Tp.n (XCr.t x)), AV.sl (List.length (Tp.ops (XCr.t x))) 4 (opG (Tp.ops (XCr.t x))), AV.sl (List.length (XCr.inp x)) 1 (ratG (XCr.inp x)), AV.int .i64 0], .box [AV.str (XCr.h x)], .box [AV.int .i64 (XCr.i x)], .box [AV.int .i64 (XCr.k x)]] ∧ 4 = 4 ∧ XCr.v x = Prod.fst (zx (XCr.t x) (XCr.inp x)) ∧ Prod.snd (zx (XCr.t x) (XCr.inp x)) = (0 : Int) ∧ errR (XCr.h x) = (0 : Int) ∧ (0 : Int) ≤ XCr.i x ∧ XCr.i x < Tp.n (XCr.t x) ∧ (0 : Int) ≤ XCr.k x ∧ XCr.k x < Tp.n (XCr.t x)) fun n_3 => .all (fun (r : (List UInt8 × Int) × List UInt8 × Int) => r = (croE (XCr.t n_3) (XCr.inp n_3) (XCr.i n_3) (XCr.k n_3) (XCr.h n_3), croF (XCr.t n_3) (XCr.inp n_3) (XCr.i n_3) (XCr.k n_3) (XCr.h n_3))) fun n_4 => .ex (fun (x : Tp × List (List UInt8) × Int × Int × List UInt8 × List UInt8) => eqL [AV.ptr 0 0, AV.fn 31 [] [], AV.str n_4.1.1, AV.str n_4.2.1] [AV.ptr 0 0, AV.fn (opN x.2.2.2.1) [] [], AV.str x.2.2.2.2.1, AV.str x.2.2.2.2.2] ∧ eqH [.box [AV.int .i64 (Tp.n (XCr.t n_3)), AV.sl (List.length (Tp.ops (XCr.t n_3))) 4 (opG (Tp.ops (XCr.t n_3))), AV.sl (List.length (XCr.inp n_3)) 1 (ratG (XCr.inp n_3)), AV.int .i64 n_4.2.2]] [.box [AV.int .i64 x.1.n, AV.sl x.1.ops.length 4 (opG x.1.ops), AV.sl x.2.1.length 1 (ratG x.2.1), AV.int .i64 x.2.2.1]] ∧ 1 = 1 ∧ (x.2.2.2.1 = 3 ∨ x.2.2.2.1 = 4 ∨ x.2.2.2.1 = 5 ∨ x.2.2.2.1 = 6) ∧ x.2.2.2.2.1.length < 2305843009213693952 ∧ x.2.2.2.2.2.length < 2305843009213693952) fun n_5 => .all (fun (r : List UInt8 × Int) => r = stp n_5.2.2.1 (arR n_5.2.2.2.1) n_5.2.2.2.2.1 n_5.2.2.2.2.2) fun n_6 => .ite (!decide (n_6.2 = 0)) (.leaf (.ret [.str (Array.toList #[]), .int .i64 n_6.2] [Blk.arrI .i64 2 (dgF [i, k]), .box [.str (XCr.h n_3)], .box [.int .i64 (XCr.i n_3)], .box [.int .i64 (XCr.k n_3)], .box [.int .i64 n, .sl ops.length 4 (opG ops)], .box [.int .i64 n_5.1.n, .sl n_5.1.ops.length 4 (opG n_5.1.ops), .sl n_5.2.1.length 1 (ratG n_5.2.1), .int .i64 n_6.2]])) (.leaf (.ret [.str n_6.1, .int .i64 0] [Blk.arrI .i64 2 (dgF [i, k]), .box [.str (XCr.h n_3)], .box [.int .i64 (XCr.i n_3)], .box [.int .i64 (XCr.k n_3)], .box [.int .i64 n, .sl ops.length 4 (opG ops)], .box [.int .i64 n_5.1.n, .sl n_5.1.ops.length 4 (opG n_5.1.ops), .sl n_5.2.1.length 1 (ratG n_5.2.1), .int .i64 n_6.2]])))))) (by kernel_rfl) ?_
 simp only [Tree.holds, ze, inR, lo, hi, Int.toNat_natCast, Nat.zero_add]
 refine ⟨fun hlt => ?_, fun hge => ?_⟩
 ·have hlt : j < 2 := by have := of_decide_eq_true hlt; omega
  refine ⟨by omega, fun _ => ⟨fun g2 => ?_, fun g2 => ⟨by omega, fun _ => ?_⟩⟩⟩
  ·refine bad 2 [_] ?_ (by decide)
   rw [hbeg, if_neg]
   intro g3
   have g3 := j6.1 g3 j hlt
   rw [decide_eq_true g3.1, decide_eq_true g3.2] at g2
   cases g2
  ·rw [if_pos trivial]
   have g3 : 0 ≤ dgF [i, k] j ∧ dgF [i, k] j < n := Uc g2
   refine ⟨⟨j + 1, hlt, fun m hm => ?_⟩, by show 2 - (j + 1) < 2 - j; omega, by simp [SD3, ratS, zc], by simp [HD3, opS, zc], by kernel_rfl, by show 4 ≤ 4 + 1; decide⟩
   rcases Nat.lt_or_ge m j with q | q
   ·exact hjp m q
   ·exact (show m = j by omega) ▸ g3
 have hj1 : j = 2 := by have := of_decide_eq_false hge; omega
 subst hj1
 have hplB : qA ⟨n, ops⟩ [i, k] = true := j6.2 hjp
 have hpl := uE hplB
 rw [if_pos hplB] at hbeg
 refine ⟨h, ⟨by simp, by omega⟩, ⟨_, rfl⟩, ?_⟩
 intro e he
 replace he : e = errR h := he
 rw [← he] at hbeg
 refine ⟨fun g2 => ?_, fun g2 => ?_⟩
 ·have g2 : e ≠ 0 := by simpa using g2
  exact bad _ [_] (by rw [hbeg, if_pos g2]) g2
 have g2 : e = 0 := by simpa using g2
 rw [if_neg (fun q => q g2)] at hbeg
 refine ⟨fun g4 => ?_, fun g4 => ?_⟩
 ·exact bad _ [_] (by rw [hbeg, if_pos (of_decide_eq_true g4)]) (by decide)
 rw [if_neg (of_decide_eq_false g4)] at hbeg
 obtain ⟨v1, v2, v3, v4, v5⟩ := kn (hv ▸ g)
 have v4' := v4
 rw [← hv] at v4
 have he0 : errR h = 0 := he ▸ g2
 have hl := zR he0
 have hlv := zR v4
 refine ⟨⟨⟨n, ops⟩, inp, h, i, k, v.1⟩, ⟨by simp, by simp [HCr, HDf, opS, ratS, zc], trivial, by rw [hv], hv ▸ g, he0, (hpl i (by simp)).1, (hpl i (by simp)).2, (hpl k (by simp)).1, (hpl k (by simp)).2⟩, ⟨_, rfl⟩, ?_⟩
 intro r hr
 replace hr : r = (croE ⟨n, ops⟩ inp i k h, croF ⟨n, ops⟩ inp i k h) := hr
 obtain ⟨hr1, hr2⟩ := zc3 he0 v1 v2 v3 v4' (hpl i (by simp)) (hpl k (by simp))
 have hr1 := zy hr1
 have hr2 := zy hr2
 rw [← show r.1 = croE ⟨n, ops⟩ inp i k h by rw [hr]] at hr1
 rw [← show r.2 = croF ⟨n, ops⟩ inp i k h by rw [hr]] at hr2
 refine ⟨(⟨n, ops⟩, inp, r.2.2, 6, r.1.1, r.2.1), ⟨by simp [opN], by simp [zc], trivial, .inr (.inr (.inr rfl)), by show (r.1.1).length < _; omega, by show (r.2.1).length < _; omega⟩, ⟨_, rfl⟩, ?_⟩
 intro w hw
 replace hw : w = stp r.2.2 (arR 6) r.1.1 r.2.1 := hw
 have hFw : F = endR w := by
  rw [← hF]
  unfold croT
  rw [hr] at hw
  rw [if_neg (fun q => q hbeg), ← arR6, ← hw]
 unfold endR at hFw
 refine ⟨fun g5 => ?_, fun g5 => ?_⟩
 ·have g5 : w.2 ≠ 0 := by simpa using g5
  rw [if_pos g5] at hFw
  exact fin ([], w.2) _ hFw
 ·have g5 : w.2 = 0 := by simpa using g5
  rw [if_neg (fun q => q g5)] at hFw
  exact fin (w.1, 0) _ hFw
def croC : Ctr := ctrP true (fun p : Tp × List (List UInt8) × Int × Int × List UInt8 => [p.1.av, ratS p.2.1, .int .i64 p.2.2.1, .int .i64 p.2.2.2.1, .str p.2.2.2.2])
 (fun p => qe p.1 ∧ qt p.2.1 ∧ p.2.2.2.2.length < 2 ^ 49) (fun p r => r = croT p.1 p.2.1 p.2.2.1 p.2.2.2.1 p.2.2.2.2)
 (fun p (r : List UInt8 × Int) => (.tup [.str r.1, .int .i64 r.2], []))
noncomputable def GG3 : Nat → Option Ctr := fun f => if f = 14 then some (Xl) else none
theorem zf5 : ∀ g c, GG3 g = some c → zg Tryz.prog g c := okIf zce (zp)
theorem zez : zg Tryz.prog 10 croC := by
 refine zi (fn := Tryz.f10) (c := Tryz.f10.body.getD .skip) rfl rfl rfl fun p hp O w0 Q hq => ?_
 obtain ⟨⟨n, ops⟩, inp, i, k, h⟩ := p
 replace hq := hq _ rfl
 simp only at hp hq
 refine zd.run hmix zf5 [] 400 (T := .ex (fun (x : Tp × List (List UInt8) × List UInt8 × Int × Int) => eqL [AV.agg [AV.int .i64 n, AV.sl ops.length 4 (opG ops)], AV.sl inp.length 1 (ratG inp), AV.str h, AV.osl 0 1 0 2, AV.fn 26 [] [AV.ptr 1 0, AV.ptr 2 0, AV.ptr 3 0]] [AV.agg [AV.int .i64 x.1.n, AV.sl x.1.ops.length 4 (opG x.1.ops)], AV.sl x.2.1.length 1 (ratG x.2.1), AV.str x.2.2.1, AV.osl 0 1 0 2, AV.fn 26 [] [AV.ptr 1 0, AV.ptr 2 0, AV.ptr 3 0]] ∧ eqH [.arr 2 1 (zf 1 [AV.int .i64 i, AV.int .i64 k]), .box [AV.str h], .box [AV.int .i64 i], .box [AV.int .i64 k]] [Blk.arrI .i64 2 (dgF [x.2.2.2.1, x.2.2.2.2]), .box [AV.str x.2.2.1], .box [AV.int .i64 x.2.2.2.1], .box [AV.int .i64 x.2.2.2.2]] ∧ 4 = 4 ∧ qe x.1 ∧ qt x.2.1 ∧ x.2.2.1.length < 562949953421312) fun n_1 => .all (fun (r : List UInt8 × Int) => r = croT n_1.1 n_1.2.1 n_1.2.2.2.1 n_1.2.2.2.2 n_1.2.2.1) fun n_2 => .leaf (.ret [.str n_2.1, .int .i64 n_2.2] [.box [.int .i64 n, .sl ops.length 4 (opG ops)], .box [.int .i64 n_1.2.2.2.1], .box [.int .i64 n_1.2.2.2.2], .box [.str n_1.2.2.1], Blk.arrI .i64 2 (dgF [n_1.2.2.2.1, n_1.2.2.2.2])])) (by kernel_rfl) ?_
 simp only [Tree.holds, ze]
 refine ⟨(⟨n, ops⟩, inp, h, i, k), ⟨by simp [zc], by simp [HB3]; exact JS, by simp [HB3], hp⟩, ⟨_, rfl⟩, ?_⟩
 rintro _ rfl
 exact RetR.scal hq rfl (by simp [resV])
end Go.Proofs.Tryz
end

/- The reference's differences. -/
section
set_option maxRecDepth 100000
open Go Go.Sx Go.Proofs Go.Nov
namespace Go.Proofs.Tryz
attribute [local simp] eqKV eqA eqA0 eqH eqB eqL eqL0
noncomputable def K20 : List Go.Sx.Item := [.code (Tryz.f20.body.getD .skip)]
noncomputable def K19 : List Go.Sx.Item := [.code (Tryz.f19.body.getD .skip)]
def ptS (l : List Int) : AV := .sl l.length 1 (tgI .i64 (dgF l))
def U6 : Ctr := ctrP true (fun p : Tp × List (List UInt8) × List UInt8 × List Int => [p.1.av, ratS p.2.1, .str p.2.2.1, ptS p.2.2.2])
 (fun p => zh p.1 = 0 ∧ (p.2.1.length : Int) = p.1.n ∧ allQ p.2.1 ∧ errR p.2.2.1 = 0 ∧ (∀ i ∈ p.2.2.2, 0 ≤ i ∧ i < p.1.n) ∧ p.2.2.2.length < 2 ^ 40)
 (fun p r => r = atT p.1 p.2.1 p.2.2.1 p.2.2.2) (fun _ (r : List UInt8 × Int) => (.tup [.str r.1, .int .i64 r.2], []))
def SSh (h : List UInt8) (pl : List Int) (N i : Nat) : KV := [(2, .str h), (3, ptS pl), (4, .ptr 0 0), (10, .osl 1 1 0 N), (11, .int .i64 (i : Int))]
def HSh (t : Tp) (N : Nat) (x : List (List UInt8)) : Heap := [.box [.int .i64 t.n, opS t.ops], .arrS N (rtF x)]
noncomputable def GH1 : Nat → Option Ctr := fun f => if f = 42 then some (Wc) else if f = 43 then some (Wz) else none
theorem zbh : ∀ g c, GH1 g = some c → zg Tryz.prog g c := okIf uY (okIf XQ (zp))
theorem zcc : zg Tryz.prog 20 U6 := by
 refine zi (fn := Tryz.f20) (c := Tryz.f20.body.getD .skip) rfl rfl rfl fun p hp O w0 Q hq => ?_
 obtain ⟨⟨n, ops⟩, inp, h, pl⟩ := p
 replace hq := hq _ rfl
 obtain ⟨h1, h2, h3, h4, h5, h6⟩ := hp
 simp only at h1 h2 h3 h4 h5 h6 hq
 refine zd.run hmix zbh [2, 3, 4, 10, 11] 400 (T := .side (0 = 0 ∧ 0 ≤ 0 ∧ (0 + inp.length) * 16 ≤ 140737488355328) (.leaf (.loop (Prod.fst (lps K20 0)) (Prod.snd (lps K20 0)) [(2, .str h), (3, .sl pl.length 1 fun (j x : Nat) => .int .i64 (dgF pl j)), (4, .ptr 0 0), (10, .osl 1 1 0 (0 + inp.length)), (11, .int .i64 0)] [.box [.int .i64 n, .sl ops.length 4 (opG ops)], .arr (0 + inp.length) 1 (appG 0 (zf 1 []) (ratG inp))]))) (by kernel_rfl) ?_
 simp only [Tree.holds, ze]
 obtain ⟨c1, c2, c3, c4, c5⟩ := qw.1 h1
 simp only at c1 c2 c3 c4 c5
 refine ⟨⟨trivial, Nat.le_refl _, by omega⟩, fun _ => ?_⟩
 generalize hF : atT ⟨n, ops⟩ inp h pl = F at hq
 have bad : ∀ (e : Int) (b : Heap), F = ([], e) → RetR U6 0 Q [.str [], .int .i64 e] b := by
  intro e b he
  rw [he] at hq
  exact RetR.scal hq rfl (by simp [resV])
 refine zd.loop (ι := {p : Nat × List (List UInt8) // p.1 ≤ pl.length ∧ p.2.length = inp.length ∧ allQ p.2 ∧ atT ⟨n, ops⟩ p.2 h (pl.drop p.1) = F}) (fun p => SSh h pl inp.length p.1.1) (fun p => HSh ⟨n, ops⟩ inp.length p.1.2) (fun p => pl.length - p.1.1) ⟨(0, inp), Nat.zero_le _, rfl, h3, hF⟩ 0 ?_ ?_ (by kernel_rfl)
 ·refine ⟨by simp [SSh, ptS]; exact fun _ _ _ _ => rfl, ?_, by kernel_rfl, Nat.zero_le _⟩
  simp [HSh, opS, zc]
  exact fun _ _ _ _ => by simp [appG, ratG, rtF, tgS]
 rintro ⟨⟨i, x⟩, hil, hxl, hxq, hxF⟩
 simp only at hil hxl hxq hxF
 refine zd.run hmix zbh [2, 3, 4, 10, 11] 400 (T := .ite (decide ((↑i : Int) < pl.length)) (.side ((0 : Int) ≤ i ∧ (↑i : Int) < pl.length) (.side ((0 : Int) ≤ dgF pl (Int.toNat (↑i : Int)) ∧ dgF pl (Int.toNat (↑i : Int)) < (↑inp.length : Int)) (.ex (fun (x_1 : List UInt8 × List UInt8) => eqL [AV.str (rtF x (0 + Int.toNat (dgF pl (Int.toNat (↑i : Int))))), AV.str h] [AV.str x_1.1, AV.str x_1.2] ∧ x_1.1.length < 549755813888 ∧ x_1.2.length < 549755813888) fun n_1 => .all (fun (r : List UInt8 × Int) => r = addR n_1.1 n_1.2) fun n_2 => .ite (!decide (n_2.2 = 0)) (.leaf (.ret [.str (Array.toList #[]), .int .i64 n_2.2] [.box [.int .i64 n, .sl ops.length 4 (opG ops)], Blk.arrS inp.length (rtF x)])) (.side ((0 : Int) ≤ i ∧ (↑i : Int) < pl.length) (.side ((0 : Int) ≤ dgF pl (Int.toNat (↑i : Int)) ∧ dgF pl (Int.toNat (↑i : Int)) < (↑inp.length : Int)) (.side (inR .i64 ((↑i : Int) + (1 : Int))) (.leaf (.back 0 [(2, .str h), (3, .sl pl.length 1 fun (j x : Nat) => .int .i64 (dgF pl j)), (4, .ptr 0 0), (10, .osl 1 1 0 inp.length), (11, .int .i64 ((↑i : Int) + (1 : Int)))] [.box [.int .i64 n, .sl ops.length 4 (opG ops)], Blk.arrS inp.length fun (j : Nat) => if j = 0 + Int.toNat (dgF pl (Int.toNat (↑i : Int))) then n_2.1 else rtF x j])))))))) (.ex (fun (x_1 : Tp × List (List UInt8)) => eqL [AV.agg [AV.int .i64 n, AV.sl ops.length 4 (opG ops)], AV.sl inp.length 1 (zj (fun (j x_2 : Nat) => AV.str (rtF x j)) 0)] [AV.agg [AV.int .i64 x_1.1.n, AV.sl x_1.1.ops.length 4 (opG x_1.1.ops)], AV.sl x_1.2.length 1 (ratG x_1.2)] ∧ zh x_1.1 = 0 ∧ (↑x_1.2.length : Int) = Tp.n x_1.1 ∧ allQ x_1.2) fun n_1 => .all (fun (r : List (List UInt8) × Int) => r = runF n_1.2 n_1.1.ops []) fun n_2 => .ite (!decide (n_2.2 = 0)) (.leaf (.ret [.str (Array.toList #[]), .int .i64 n_2.2] [.box [.int .i64 n, .sl ops.length 4 (opG ops)], Blk.arrS inp.length (rtF x), .arr n_2.1.length 1 (ratG n_2.1)])) (.side (inR .i64 ((↑n_2.1.length : Int) - (1 : Int))) (.side ((0 : Int) ≤ n_2.1.length - (1 : Int) ∧ (↑n_2.1.length : Int) - (1 : Int) < n_2.1.length) (.leaf (.ret [.str (List.getD n_2.1 (0 + Int.toNat ((↑n_2.1.length : Int) - (1 : Int))) []), .int .i64 0] [.box [.int .i64 n, .sl ops.length 4 (opG ops)], Blk.arrS inp.length (rtF x), .arr n_2.1.length 1 (ratG n_2.1)])))))) (by kernel_rfl) ?_
 simp only [Tree.holds, ze, inR, lo, hi, Int.toNat_natCast, Nat.zero_add]
 refine ⟨fun hlt => ?_, fun hge => ?_⟩
 ·have hlt : i < pl.length := by have := of_decide_eq_true hlt; omega
  have hpl : 0 ≤ dgF pl i ∧ dgF pl i < n := h5 _ (by simp [dgF, List.getD, hlt])
  have hd : pl.drop i = dgF pl i :: pl.drop (i + 1) := by rw [List.drop_eq_getElem_cons hlt]; simp [dgF, List.getD, hlt]
  have hq1 := Xz hxq (dgF pl i).toNat
  have hq2 := zR h4
  rw [hd] at hxF
  refine ⟨by omega, fun _ => ⟨by omega, fun _ => ⟨(rtF x (dgF pl i).toNat, h), ⟨by simp, by show (x.getD _ []).length < _; omega, by show h.length < _; omega⟩, ⟨_, rfl⟩, ?_⟩⟩⟩
  intro r hr
  replace hr : r = addR (x.getD (dgF pl i).toNat []) h := hr
  refine ⟨fun g => ?_, fun g => ⟨by omega, fun _ => ⟨by omega, fun _ => ⟨by omega, fun _ => ?_⟩⟩⟩⟩
  ·have g : r.2 ≠ 0 := by simpa using g
   rw [hr] at g
   rw [WY g, ← hr] at hxF
   exact bad _ _ hxF.symm
  ·have g : r.2 = 0 := by simpa using g
   rw [hr] at g
   rw [Ww g, ← hr] at hxF
   rw [if_pos trivial]
   refine ⟨⟨(i + 1, x.set (dgF pl i).toNat r.1), hlt, by simp [hxl], xZ hxq (by rw [hr]; exact (xp (qS hxq (by omega)) h4 g).1) _, hxF⟩, by show pl.length - (i + 1) < pl.length - i; omega, by simp [SSh, ptS]; exact fun _ _ _ _ => rfl, ?_, by kernel_rfl, Nat.zero_le _⟩
   simp [HSh, opS, zc]
   exact VM (by omega)
 ·have hge : i = pl.length := by have := of_decide_eq_false hge; omega
  subst hge
  rw [List.drop_length, zal] at hxF
  refine ⟨(⟨n, ops⟩, x), ⟨⟨⟨⟨rfl, rfl⟩, ⟨rfl, rfl, zc _ _ _⟩, trivial⟩, ⟨hxl.symm, rfl, fun j o _ _ => by simp [zj, rtF, ratG]⟩, trivial⟩, h1, by show (x.length : Int) = n; omega, hxq⟩, ⟨_, rfl⟩, ?_⟩
  intro r hr
  replace hr : r = runF x ops [] := hr
  rw [← hr] at hxF
  unfold qQ at hxF
  refine ⟨fun g => ?_, fun g => ?_⟩
  ·have g : r.2 ≠ 0 := by simpa using g
   rw [if_pos g] at hxF
   exact bad _ _ hxF.symm
  ·have g : r.2 = 0 := by simpa using g
   rw [if_neg (fun k => k g)] at hxF
   have hl : r.1.length = ops.length := by
    obtain ⟨_, _, a3⟩ := xJ (n := n) hxq (by omega) ops [] _ (fun y hy => absurd hy (by simp)) (jk c5 ops 0 (List.drop_zero)) (show runF x ops [] = (r.1, 0) by rw [← hr, ← g])
    simpa using a3
   refine ⟨by omega, fun _ => ⟨by omega, fun _ => ?_⟩⟩
   have e2 : ((r.1.length : Int) - 1).toNat = r.1.length - 1 := by omega
   rw [e2]
   rw [← hxF] at hq
   exact RetR.scal hq rfl (by simp [resV])
def Us : Ctr := ctrP true (fun p : Tp × List (List UInt8) × List Int × List UInt8 => [p.1.av, ratS p.2.1, ptS p.2.2.1, .str p.2.2.2])
 (fun p => midT p.1 ∧ midR p.2.1 ∧ p.2.2.1.length < 2 ^ 40 ∧ p.2.2.2.length < 2 ^ 40)
 (fun p r => r = ((zx p.1 p.2.1).1, begT p.1 p.2.1 p.2.2.1 p.2.2.2)) (fun _ (r : List UInt8 × Int) => (.tup [.str r.1, .int .i64 r.2], []))
def SBg (pl : List Int) (h v : List UInt8) (e : Int) (i : Nat) : KV := [(2, ptS pl), (3, .str h), (4, .ptr 0 0), (10, .str v), (11, .int .i64 e), (12, .int .i64 (i : Int)), (24, .undef), (25, .undef), (45, .undef), (46, .undef)]
def HBg (t : Tp) : Heap := [.box [.int .i64 t.n, opS t.ops]]
noncomputable def GH2 : Nat → Option Ctr := fun f => if f = 39 then some (zdo) else if f = 40 then some (tInI) else if f = 41 then some (xc) else none
theorem zbs : ∀ g c, GH2 g = some c → zg Tryz.prog g c := okIf zcf (okIf Ko (okIf k8 (zp)))
theorem zd1 : zg Tryz.prog 19 Us := by
 refine zi (fn := Tryz.f19) (c := Tryz.f19.body.getD .skip) rfl rfl rfl fun p hp O w0 Q hq => ?_
 obtain ⟨⟨n, ops⟩, inp, pl, h⟩ := p
 replace hq := hq _ rfl
 obtain ⟨h1, h2, h3, h4⟩ := hp
 simp only at h1 h2 h3 h4 hq
 refine zd.run hmix zbs [2, 3, 4, 10, 11, 12, 24, 25, 45, 46] 400 (T := .ex (fun (x : Tp × List (List UInt8)) => eqL [AV.agg [AV.int .i64 n, AV.sl ops.length 4 (opG ops)], AV.sl inp.length 1 (ratG inp)] [AV.agg [AV.int .i64 x.1.n, AV.sl x.1.ops.length 4 (opG x.1.ops)], AV.sl x.2.length 1 (ratG x.2)] ∧ midT x.1 ∧ midR x.2) fun n_1 => .all (fun (r : List UInt8 × Int) => r = zx n_1.1 n_1.2) fun n_2 => .leaf (.loop (Prod.fst (lps K19 0)) (Prod.snd (lps K19 0)) [(2, .sl pl.length 1 fun (j x : Nat) => .int .i64 (dgF pl j)), (3, .str h), (4, .ptr 0 0), (10, .str n_2.1), (11, .int .i64 n_2.2), (12, .int .i64 0), (24, .undef), (25, .undef), (45, .undef), (46, .undef)] [.box [.int .i64 n, .sl ops.length 4 (opG ops)]])) (by kernel_rfl) ?_
 simp only [Tree.holds, ze]
 refine ⟨(⟨n, ops⟩, inp), ⟨by simp [zc], h1, h2⟩, ⟨_, rfl⟩, ?_⟩
 intro v hv
 replace hv : v = zx ⟨n, ops⟩ inp := hv
 rw [← hv] at hq
 have hn : v.2 = 0 → 0 ≤ n ∧ n ≤ 500 := fun q => by
  have := (qw.1 (kn (hv ▸ q)).1)
  exact ⟨this.2.1, this.2.2.1⟩
 have b0 : v.2 = 0 → begT ⟨n, ops⟩ inp pl h = if qA ⟨n, ops⟩ pl then (if errR h ≠ 0 then errR h else if h = [48] then 16 else 0) else 2 := fun q => by
  unfold begT; rw [← hv, if_neg (fun k => k q)]
 have b1 : v.2 ≠ 0 → begT ⟨n, ops⟩ inp pl h = v.2 := fun q => by unfold begT; rw [← hv, if_pos q]
 generalize hB : begT ⟨n, ops⟩ inp pl h = B at hq b0 b1
 refine zd.loop (ι := {p : Nat × Int // p.1 ≤ pl.length ∧ (p.2 = 0 → v.2 = 0 ∧ ∀ j, j < p.1 → 0 ≤ dgF pl j ∧ dgF pl j < n) ∧ (p.2 ≠ 0 → B = p.2)}) (fun p => SBg pl h v.1 p.1.2 p.1.1) (fun _ => HBg ⟨n, ops⟩) (fun p => pl.length - p.1.1) ⟨(0, v.2), Nat.zero_le _, fun q => ⟨q, fun j w => absurd w (Nat.not_lt_zero j)⟩, fun q => b1 q⟩ 0 ?_ ?_ (by kernel_rfl)
 ·exact ⟨by simp [SBg, ptS]; exact fun _ _ _ _ => rfl, by simp [HBg, opS, zc], by kernel_rfl, Nat.zero_le _⟩
 rintro ⟨⟨i, e⟩, hil, he0, he1⟩
 simp only at hil he0 he1
 refine zd.run hmix zbs [2, 3, 4, 10, 11, 12, 24, 25, 45, 46] 400 (T := .ite (bif decide ((↑i : Int) < pl.length) then decide (e = 0) else false) (.side ((0 : Int) ≤ i ∧ (↑i : Int) < pl.length) (.side (inR .i64 (n - (1 : Int))) (.ite (!bif decide ((0 : Int) ≤ dgF pl (Int.toNat (↑i : Int))) then decide (dgF pl (Int.toNat (↑i : Int)) ≤ n - (1 : Int)) else false) (.side (inR .i64 ((↑i : Int) + (1 : Int))) (.leaf (.back 0 [(2, .sl pl.length 1 fun (j x : Nat) => .int .i64 (dgF pl j)), (3, .str h), (4, .ptr 0 0), (10, .str v.1), (11, .int .i64 2), (12, .int .i64 ((↑i : Int) + (1 : Int))), (24, .undef), (25, .undef), (45, .undef), (46, .undef)] [.box [.int .i64 n, .sl ops.length 4 (opG ops)]]))) (.side (inR .i64 ((↑i : Int) + (1 : Int))) (.leaf (.back 0 [(2, .sl pl.length 1 fun (j x : Nat) => .int .i64 (dgF pl j)), (3, .str h), (4, .ptr 0 0), (10, .str v.1), (11, .int .i64 e), (12, .int .i64 ((↑i : Int) + (1 : Int))), (24, .undef), (25, .undef), (45, .undef), (46, .undef)] [.box [.int .i64 n, .sl ops.length 4 (opG ops)]])))))) (.ite (decide (e = 0)) (.ex (fun (x : List UInt8) => eqL [AV.str h] [AV.str x] ∧ x.length < 1099511627776) fun n_1 => .all (fun (r : Int) => r = errR n_1) fun n_2 => .ite (bif decide (n_2 = 0) then decide (h = Array.toList #[(48 : UInt8)]) else false) (.leaf (.ret [.str v.1, .int .i64 16] [.box [.int .i64 n, .sl ops.length 4 (opG ops)]])) (.leaf (.ret [.str v.1, .int .i64 n_2] [.box [.int .i64 n, .sl ops.length 4 (opG ops)]]))) (.ite (bif decide (e = 0) then decide (h = Array.toList #[(48 : UInt8)]) else false) (.leaf (.ret [.str v.1, .int .i64 16] [.box [.int .i64 n, .sl ops.length 4 (opG ops)]])) (.leaf (.ret [.str v.1, .int .i64 e] [.box [.int .i64 n, .sl ops.length 4 (opG ops)]]))))) (by kernel_rfl) ?_
 simp only [Tree.holds, ze, inR, lo, hi, Int.toNat_natCast, Nat.zero_add]
 have fin : ∀ (e' : Int) (b : Heap), B = e' → RetR Us 0 Q [.str v.1, .int .i64 e'] b := by
  intro e' b he
  rw [he] at hq
  exact RetR.scal hq rfl (by simp [resV])
 refine ⟨fun g => ?_, fun g => ?_⟩
 ·rw [andt] at g
  have hlt : i < pl.length := by have := of_decide_eq_true g.1; omega
  have he : e = 0 := of_decide_eq_true g.2
  obtain ⟨v0, hpj⟩ := he0 he
  have hnn := hn v0
  refine ⟨by omega, fun _ => ⟨by omega, fun _ => ⟨fun g2 => ⟨by omega, fun _ => ?_⟩, fun g2 => ⟨by omega, fun _ => ?_⟩⟩⟩⟩
  ·rw [if_pos trivial]
   refine ⟨⟨(i + 1, 2), hlt, fun q => absurd (show (2 : Int) = 0 from q) (by decide), fun _ => ?_⟩, by show pl.length - (i + 1) < pl.length - i; omega, by simp [SBg, ptS]; exact fun _ _ _ _ => rfl, by simp [HBg, opS, zc], by kernel_rfl, Nat.zero_le _⟩
   rw [b0 v0, if_neg]
   intro q
   have q := j6.1 q i hlt
   simp only at q
   rw [decide_eq_true q.1, decide_eq_true (show dgF pl i ≤ n - 1 by omega)] at g2
   cases g2
  ·rw [if_pos trivial]
   have q : 0 ≤ dgF pl i ∧ dgF pl i < n := by
    by_cases a : 0 ≤ dgF pl i
    ·by_cases b : dgF pl i ≤ n - 1
     ·omega
     ·rw [decide_eq_true a, decide_eq_false b] at g2; cases g2
    ·rw [decide_eq_false a] at g2; cases g2
   refine ⟨⟨(i + 1, e), hlt, fun _ => ⟨v0, fun j hj => ?_⟩, fun w => absurd he w⟩, by show pl.length - (i + 1) < pl.length - i; omega, by simp [SBg, ptS]; exact fun _ _ _ _ => rfl, by simp [HBg, opS, zc], by kernel_rfl, Nat.zero_le _⟩
   rcases Nat.lt_or_ge j i with w | w
   ·exact hpj j w
   ·exact (show j = i by omega) ▸ q
 refine ⟨fun g2 => ?_, fun g2 => ⟨fun g3 => ?_, fun _ => ?_⟩⟩
 ·have he : e = 0 := of_decide_eq_true g2
  obtain ⟨v0, hpj⟩ := he0 he
  have hge : i = pl.length := by
   rw [decide_eq_true he] at g
   rcases Nat.lt_or_ge i pl.length with w | w
   ·rw [decide_eq_true (show (i : Int) < pl.length by omega)] at g; cases g
   ·omega
  subst hge
  have hB2 := b0 v0
  rw [if_pos (j6.2 hpj)] at hB2
  refine ⟨h, ⟨by simp, h4⟩, ⟨_, rfl⟩, ?_⟩
  intro u hu
  replace hu : u = errR h := hu
  rw [← hu] at hB2
  by_cases w : u = 0
  ·rw [if_neg (fun q => q w)] at hB2
   subst w
   refine ⟨fun g3 => ?_, fun g3 => ?_⟩
   ·have g3 : h = [48] := of_decide_eq_true g3
    rw [if_pos g3] at hB2
    exact fin 16 _ hB2
   ·have g3 : ¬ h = [48] := of_decide_eq_false g3
    rw [if_neg g3] at hB2
    exact fin 0 _ hB2
  ·rw [if_pos w] at hB2
   refine ⟨fun g3 => ?_, fun _ => fin u _ hB2⟩
   rw [decide_eq_false w] at g3; cases g3
 ·rw [g2] at g3; cases g3
 ·exact fin e _ (he1 (of_decide_eq_false g2))
noncomputable def zdl : Ctr := inlC Tryz.prog noG 100 Tryz.f22
theorem zd3 : zg Tryz.prog 22 zdl := wP hmix z3 rfl rfl
def XC : Ctr := ctrP true (fun p : Int × List UInt8 × List UInt8 × Int => [.int .u8 p.1, .str p.2.1, .str p.2.2.1, .int .i64 p.2.2.2])
 (fun p => (p.1 = 3 ∨ p.1 = 4 ∨ p.1 = 5 ∨ p.1 = 6) ∧ p.2.1.length < 2 ^ 38 ∧ p.2.2.1.length < 2 ^ 38) (fun p r => r = stp p.2.2.2 (arR p.1) p.2.1 p.2.2.1) (fun _ (r : List UInt8 × Int) => (.tup [.str r.1, .int .i64 r.2], []))
noncomputable def GH3 : Nat → Option Ctr := fun f => if f = 44 then some (JM) else none
theorem zex : ∀ g c, GH3 g = some c → zg Tryz.prog g c := okIf Q9 (zp)
theorem zd0 : zg Tryz.prog 21 XC := by
 refine zi (fn := Tryz.f21) (c := Tryz.f21.body.getD .skip) rfl rfl rfl fun p hp O w0 Q hq => ?_
 obtain ⟨k, a, b, e⟩ := p
 replace hq := hq _ rfl
 obtain ⟨h1, h2, h3⟩ := hp
 simp only at h1 h2 h3 hq
 have no : ∀ b' : Heap, (!decide (e = 0)) = true → RetR XC 0 Q [.str [], .int .i64 e] b' := by
  intro b' g
  have g : e ≠ 0 := by simpa using g
  unfold stp at hq
  rw [if_pos g] at hq
  exact RetR.scal hq rfl (by simp [resV])
 have yes : ∀ (b' : Heap) (r : List UInt8 × Int), (!decide (e = 0)) = false → r = arR k a b → RetR XC 0 Q [.str r.1, .int .i64 r.2] b' := by
  intro b' r g hr
  have g : e = 0 := by simpa using g
  unfold stp at hq
  rw [if_neg (fun q => q g), ← hr] at hq
  exact RetR.scal hq rfl (by simp [resV])
 refine zd.run hmix zex [] 400 (T := .ite (!decide (e = 0)) (.leaf (.ret [.str (Array.toList #[]), .int .i64 e] [])) (.ite (decide (k = 3)) (.ex (fun (x : List UInt8 × List UInt8) => eqL [AV.str a, AV.str b] [AV.str x.1, AV.str x.2] ∧ x.1.length < 549755813888 ∧ x.2.length < 549755813888) fun n => .all (fun (r : List UInt8 × Int) => r = addR n.1 n.2) fun n => .leaf (.ret [.str n.1, .int .i64 n.2] [])) (.ite (decide (k = 4)) (.ex (fun (x : List UInt8 × List UInt8) => eqL [AV.str a, AV.str b] [AV.str x.1, AV.str x.2] ∧ x.1.length < 274877906944 ∧ x.2.length < 274877906944) fun n => .all (fun (r : List UInt8 × Int) => r = subR n.1 n.2) fun n => .leaf (.ret [.str n.1, .int .i64 n.2] [])) (.ite (decide (k = 5)) (.ex (fun (x : List UInt8 × List UInt8) => eqL [AV.str a, AV.str b] [AV.str x.1, AV.str x.2] ∧ x.1.length < 549755813888 ∧ x.2.length < 549755813888) fun n => .all (fun (r : List UInt8 × Int) => r = mulR n.1 n.2) fun n => .leaf (.ret [.str n.1, .int .i64 n.2] [])) (.ex (fun (x : List UInt8 × List UInt8) => eqL [AV.str a, AV.str b] [AV.str x.1, AV.str x.2] ∧ x.1.length < 549755813888 ∧ x.2.length < 549755813888) fun n => .all (fun (r : List UInt8 × Int) => r = divR n.1 n.2) fun n => .leaf (.ret [.str n.1, .int .i64 n.2] [])))))) (by kernel_rfl) ?_
 simp only [Tree.holds, ze]
 refine ⟨fun g => no _ g, fun g => ⟨fun k3 => ?_, fun k3 => ⟨fun k4 => ?_, fun k4 => ⟨fun k5 => ?_, fun k5 => ?_⟩⟩⟩⟩
 ·refine ⟨(a, b), ⟨by simp, by show a.length < _; omega, by show b.length < _; omega⟩, ⟨_, rfl⟩, fun r hr => yes _ r g (by unfold arR; rw [if_pos (of_decide_eq_true k3)]; exact hr)⟩
 ·refine ⟨(a, b), ⟨by simp, by show a.length < _; omega, by show b.length < _; omega⟩, ⟨_, rfl⟩, fun r hr => yes _ r g (by unfold arR; rw [if_neg (of_decide_eq_false k3), if_pos (of_decide_eq_true k4)]; exact hr)⟩
 ·refine ⟨(a, b), ⟨by simp, by show a.length < _; omega, by show b.length < _; omega⟩, ⟨_, rfl⟩, fun r hr => yes _ r g (by unfold arR; rw [if_neg (of_decide_eq_false k3), if_neg (of_decide_eq_false k4), if_pos (of_decide_eq_true k5)]; exact hr)⟩
 ·refine ⟨(a, b), ⟨by simp, by show a.length < _; omega, by show b.length < _; omega⟩, ⟨_, rfl⟩, fun r hr => yes _ r g (by unfold arR; rw [if_neg (of_decide_eq_false k3), if_neg (of_decide_eq_false k4), if_neg (of_decide_eq_false k5)]; exact hr)⟩
theorem jm {g : Nat → Nat → AV} : zj g 0 = g := by funext j o; simp [zj]
theorem Y3 {h : List UInt8} (h0 : errR h = 0) : 0 < h.length := by
 cases h with
 | nil => exact absurd h0 (by decide +kernel)
 | cons a l => simp
def VZ : Ctr := ctrP true (fun p : Tp × List (List UInt8) × Int × List UInt8 => [p.1.av, ratS p.2.1, .int .i64 p.2.2.1, .str p.2.2.2])
 (fun p => midT p.1 ∧ midR p.2.1 ∧ p.2.2.2.length < 2 ^ 36) (fun p r => r = zP p.1 p.2.1 p.2.2.1 p.2.2.2)
 (fun p (r : List UInt8 × Int) => (.tup [.str r.1, .int .i64 r.2], []))
noncomputable def GH4 : Nat → Option Ctr := fun f => if f = 19 then some (Us) else if f = 20 then some (U6) else if f = 21 then some (XC) else if f = 22 then some (zdl) else if f = 25 then some (Kd) else none
theorem Kq : ∀ g c, GH4 g = some c → zg Tryz.prog g c := okIf zd1 (okIf zcc (okIf zd0 (okIf zd3 (okIf V0 (zp)))))
theorem zak : zg Tryz.prog 7 VZ := by
 refine zi (fn := Tryz.f7) (c := Tryz.f7.body.getD .skip) rfl rfl rfl fun p hp O w0 Q hq => ?_
 obtain ⟨⟨n, ops⟩, inp, i, h⟩ := p
 replace hq := hq _ rfl
 obtain ⟨h1, h2, h3⟩ := hp
 simp only at h1 h2 h3 hq
 refine zd.run hmix Kq [] 400 (T := .ex (fun (x : Tp × List (List UInt8) × List Int × List UInt8) => eqL [AV.agg [AV.int .i64 n, AV.sl ops.length 4 (opG ops)], AV.sl inp.length 1 (ratG inp), AV.sl 1 1 (zj (zf 1 [AV.int .i64 i]) 0), AV.str h] [AV.agg [AV.int .i64 x.1.n, AV.sl x.1.ops.length 4 (opG x.1.ops)], AV.sl x.2.1.length 1 (ratG x.2.1), AV.sl x.2.2.1.length 1 fun (j x_1 : Nat) => AV.int .i64 (dgF x.2.2.1 j), AV.str x.2.2.2] ∧ midT x.1 ∧ midR x.2.1 ∧ x.2.2.1.length < 1099511627776 ∧ x.2.2.2.length < 1099511627776) fun n_1 => .all (fun (r : List UInt8 × Int) => r = (Prod.fst (zx n_1.1 n_1.2.1), begT n_1.1 n_1.2.1 n_1.2.2.1 n_1.2.2.2)) fun n_2 => .ite (!decide (n_2.2 = 0)) (.leaf (.ret [.str (Array.toList #[]), .int .i64 n_2.2] [.box [.int .i64 n, .sl ops.length 4 (opG ops)], .arr 1 1 (zf 1 [.int .i64 i])])) (.ex (fun (x : Tp × List (List UInt8) × List UInt8 × List Int) => eqL [AV.agg [AV.int .i64 n, AV.sl ops.length 4 (opG ops)], AV.sl inp.length 1 (ratG inp), AV.str h, AV.sl 1 1 (zj (zf 1 [AV.int .i64 i]) 0)] [AV.agg [AV.int .i64 x.1.n, AV.sl x.1.ops.length 4 (opG x.1.ops)], AV.sl x.2.1.length 1 (ratG x.2.1), AV.str x.2.2.1, AV.sl x.2.2.2.length 1 fun (j x_1 : Nat) => AV.int .i64 (dgF x.2.2.2 j)] ∧ zh x.1 = 0 ∧ (↑x.2.1.length : Int) = Tp.n x.1 ∧ allQ x.2.1 ∧ errR x.2.2.1 = 0 ∧ (∀ (i : Int), i ∈ x.2.2.2 → (0 : Int) ≤ i ∧ i < Tp.n x.1) ∧ x.2.2.2.length < 1099511627776) fun n_3 => .all (fun (r : List UInt8 × Int) => r = atT n_3.1 n_3.2.1 n_3.2.2.1 n_3.2.2.2) fun n_4 => .ex (fun (x : Int × List UInt8 × List UInt8 × Int) => eqL [AV.int .u8 4, AV.str n_4.1, AV.str n_2.1, AV.int .i64 n_4.2] [AV.int .u8 x.1, AV.str x.2.1, AV.str x.2.2.1, AV.int .i64 x.2.2.2] ∧ (x.1 = 3 ∨ x.1 = 4 ∨ x.1 = 5 ∨ x.1 = 6) ∧ x.2.1.length < 274877906944 ∧ x.2.2.1.length < 274877906944) fun n_5 => .all (fun (r : List UInt8 × Int) => r = stp n_5.2.2.2 (arR n_5.1) n_5.2.1 n_5.2.2.1) fun n_6 => .ex (fun (x : Int × List UInt8 × List UInt8 × Int) => eqL [AV.int .u8 6, AV.str n_6.1, AV.str h, AV.int .i64 n_6.2] [AV.int .u8 x.1, AV.str x.2.1, AV.str x.2.2.1, AV.int .i64 x.2.2.2] ∧ (x.1 = 3 ∨ x.1 = 4 ∨ x.1 = 5 ∨ x.1 = 6) ∧ x.2.1.length < 274877906944 ∧ x.2.2.1.length < 274877906944) fun n_7 => .all (fun (r : List UInt8 × Int) => r = stp n_7.2.2.2 (arR n_7.1) n_7.2.1 n_7.2.2.1) fun n_8 => .ite (!decide (n_8.2 = 0)) (.leaf (.ret [.str (Array.toList #[]), .int .i64 n_8.2] [.box [.int .i64 n, .sl ops.length 4 (opG ops)], .arr 1 1 (zf 1 [.int .i64 i]), .arr 1 1 (zf 1 [.int .i64 i])])) (.leaf (.ret [.str n_8.1, .int .i64 0] [.box [.int .i64 n, .sl ops.length 4 (opG ops)], .arr 1 1 (zf 1 [.int .i64 i]), .arr 1 1 (zf 1 [.int .i64 i])])))) (by kernel_rfl) ?_
 simp only [Tree.holds, ze]
 generalize hF : zP ⟨n, ops⟩ inp i h = F at hq
 have fin : ∀ (r : List UInt8 × Int) (b : Heap), F = r → RetR VZ 0 Q [.str r.1, .int .i64 r.2] b := by
  intro r b hr
  rw [hr] at hq
  exact RetR.scal hq rfl (by simp [resV])
 refine ⟨(⟨n, ops⟩, inp, [i], h), ⟨⟨⟨⟨rfl, rfl⟩, ⟨rfl, rfl, zc _ _ _⟩, trivial⟩, ⟨rfl, rfl, zc _ _ _⟩, ⟨rfl, rfl, (by rw [jm]; exact jE)⟩, rfl, trivial⟩, h1, h2, by simp, by show h.length < _; omega⟩, ⟨_, rfl⟩, ?_⟩
 intro v hv
 replace hv : v = ((zx ⟨n, ops⟩ inp).1, begT ⟨n, ops⟩ inp [i] h) := hv
 have hv1 : v.1 = (zx ⟨n, ops⟩ inp).1 := by rw [hv]
 have hv2 : v.2 = begT ⟨n, ops⟩ inp [i] h := by rw [hv]
 refine ⟨fun g => ?_, fun g => ?_⟩
 ·have g : v.2 ≠ 0 := by simpa using g
  refine fin ([], v.2) _ ?_
  rw [← hF]
  unfold zP
  rw [← hv2, if_pos g]
 have g : v.2 = 0 := by simpa using g
 rw [hv2] at g
 obtain ⟨D, v4, _⟩ := xF g
 rw [← hv1] at v4
 have hg : ¬ begT ⟨n, ops⟩ inp [i] h ≠ 0 := fun q => q g
 have hpl := D.l
 have he0 := D.h0
 have hl := zR D.h0
 have hlv := zR v4
 refine ⟨(⟨n, ops⟩, inp, h, [i]), ⟨⟨⟨⟨rfl, rfl⟩, ⟨rfl, rfl, zc _ _ _⟩, trivial⟩, ⟨rfl, rfl, zc _ _ _⟩, rfl, ⟨rfl, rfl, (by rw [jm]; exact jE)⟩, trivial⟩, D.c, D.n, D.q, he0, hpl, by simp⟩, ⟨_, rfl⟩, ?_⟩
 intro a ha
 replace ha : a = atT ⟨n, ops⟩ inp h [i] := ha
 have ga : zN a := ha ▸ qn he0 D.c D.n D.q hpl
 have la := zy ga
 refine ⟨(4, a.1, v.1, a.2), ⟨by simp, .inr (.inl rfl), by show (a.1).length < _; omega, by show (v.1).length < _; omega⟩, ⟨_, rfl⟩, ?_⟩
 intro d hd
 replace hd : d = stp a.2 (arR 4) a.1 v.1 := hd
 have gd : zN d := hd ▸ zG (fun q => ⟨zT ga q, v4⟩)
 have ld := zy gd
 refine ⟨(6, d.1, h, d.2), ⟨by simp, .inr (.inr (.inr rfl)), by show (d.1).length < _; omega, by show (h).length < _; omega⟩, ⟨_, rfl⟩, ?_⟩
 intro w hw
 replace hw : w = stp d.2 (arR 6) d.1 h := hw
 have hFw : F = endR w := by
  rw [← hF]
  unfold zP xC
  rw [if_neg hg, ← hv1, ← ha, ← arR4, ← hd, ← arR6, ← hw]
 unfold endR at hFw
 refine ⟨fun q => ?_, fun q => ?_⟩
 ·have q : w.2 ≠ 0 := by simpa using q
  rw [if_pos q] at hFw
  exact fin ([], w.2) _ hFw
 ·have q : w.2 = 0 := by simpa using q
  rw [if_neg (fun z => z q)] at hFw
  exact fin (w.1, 0) _ hFw
def Uz : Ctr := ctrP true (fun p : Tp × List (List UInt8) × Int × List UInt8 => [p.1.av, ratS p.2.1, .int .i64 p.2.2.1, .str p.2.2.2])
 (fun p => midT p.1 ∧ midR p.2.1 ∧ p.2.2.2.length < 2 ^ 36) (fun p r => r = cenT p.1 p.2.1 p.2.2.1 p.2.2.2)
 (fun p (r : List UInt8 × Int) => (.tup [.str r.1, .int .i64 r.2], []))
theorem zcg : zg Tryz.prog 9 Uz := by
 refine zi (fn := Tryz.f9) (c := Tryz.f9.body.getD .skip) rfl rfl rfl fun p hp O w0 Q hq => ?_
 obtain ⟨⟨n, ops⟩, inp, i, h⟩ := p
 replace hq := hq _ rfl
 obtain ⟨h1, h2, h3⟩ := hp
 simp only at h1 h2 h3 hq
 refine zd.run hmix Kq [] 400 (T := .ex (fun (x : Tp × List (List UInt8) × List Int × List UInt8) => eqL [AV.agg [AV.int .i64 n, AV.sl ops.length 4 (opG ops)], AV.sl inp.length 1 (ratG inp), AV.sl 1 1 (zj (zf 1 [AV.int .i64 i]) 0), AV.str h] [AV.agg [AV.int .i64 x.1.n, AV.sl x.1.ops.length 4 (opG x.1.ops)], AV.sl x.2.1.length 1 (ratG x.2.1), AV.sl x.2.2.1.length 1 fun (j x_1 : Nat) => AV.int .i64 (dgF x.2.2.1 j), AV.str x.2.2.2] ∧ midT x.1 ∧ midR x.2.1 ∧ x.2.2.1.length < 1099511627776 ∧ x.2.2.2.length < 1099511627776) fun n_1 => .all (fun (r : List UInt8 × Int) => r = (Prod.fst (zx n_1.1 n_1.2.1), begT n_1.1 n_1.2.1 n_1.2.2.1 n_1.2.2.2)) fun n_2 => .ite (!decide (n_2.2 = 0)) (.leaf (.ret [.str (Array.toList #[]), .int .i64 n_2.2] [.box [.int .i64 n, .sl ops.length 4 (opG ops)], .arr 1 1 (zf 1 [.int .i64 i])])) (.ex (fun (x : Tp × List (List UInt8) × List UInt8 × List Int) => eqL [AV.agg [AV.int .i64 n, AV.sl ops.length 4 (opG ops)], AV.sl inp.length 1 (ratG inp), AV.str h, AV.sl 1 1 (zj (zf 1 [AV.int .i64 i]) 0)] [AV.agg [AV.int .i64 x.1.n, AV.sl x.1.ops.length 4 (opG x.1.ops)], AV.sl x.2.1.length 1 (ratG x.2.1), AV.str x.2.2.1, AV.sl x.2.2.2.length 1 fun (j x_1 : Nat) => AV.int .i64 (dgF x.2.2.2 j)] ∧ zh x.1 = 0 ∧ (↑x.2.1.length : Int) = Tp.n x.1 ∧ allQ x.2.1 ∧ errR x.2.2.1 = 0 ∧ (∀ (i : Int), i ∈ x.2.2.2 → (0 : Int) ≤ i ∧ i < Tp.n x.1) ∧ x.2.2.2.length < 1099511627776) fun n_3 => .all (fun (r : List UInt8 × Int) => r = atT n_3.1 n_3.2.1 n_3.2.2.1 n_3.2.2.2) fun n_4 => .ite (!decide (n_4.2 = 0)) (.leaf (.ret [.str (Array.toList #[]), .int .i64 n_4.2] [.box [.int .i64 n, .sl ops.length 4 (opG ops)], .arr 1 1 (zf 1 [.int .i64 i]), .arr 1 1 (zf 1 [.int .i64 i])])) (.all (fun (x : Bool) => True) fun n_5 => .ite n_5 (.ex (fun (x : List UInt8) => eqL [AV.str h] [AV.str x] ∧ 0 < x.length ∧ x.length < 1099511627776) fun n_6 => .all (fun (r : List UInt8) => r = negS n_6) fun n_7 => .ex (fun (x : Tp × List (List UInt8) × List UInt8 × List Int) => eqL [AV.agg [AV.int .i64 n, AV.sl ops.length 4 (opG ops)], AV.sl inp.length 1 (ratG inp), AV.str n_7, AV.sl 1 1 (zj (zf 1 [AV.int .i64 i]) 0)] [AV.agg [AV.int .i64 x.1.n, AV.sl x.1.ops.length 4 (opG x.1.ops)], AV.sl x.2.1.length 1 (ratG x.2.1), AV.str x.2.2.1, AV.sl x.2.2.2.length 1 fun (j x_1 : Nat) => AV.int .i64 (dgF x.2.2.2 j)] ∧ zh x.1 = 0 ∧ (↑x.2.1.length : Int) = Tp.n x.1 ∧ allQ x.2.1 ∧ errR x.2.2.1 = 0 ∧ (∀ (i : Int), i ∈ x.2.2.2 → (0 : Int) ≤ i ∧ i < Tp.n x.1) ∧ x.2.2.2.length < 1099511627776) fun n_8 => .all (fun (r : List UInt8 × Int) => r = atT n_8.1 n_8.2.1 n_8.2.2.1 n_8.2.2.2) fun n_9 => .ex (fun (x : Int × List UInt8 × List UInt8 × Int) => eqL [AV.int .u8 4, AV.str n_4.1, AV.str n_9.1, AV.int .i64 n_9.2] [AV.int .u8 x.1, AV.str x.2.1, AV.str x.2.2.1, AV.int .i64 x.2.2.2] ∧ (x.1 = 3 ∨ x.1 = 4 ∨ x.1 = 5 ∨ x.1 = 6) ∧ x.2.1.length < 274877906944 ∧ x.2.2.1.length < 274877906944) fun n_10 => .all (fun (r : List UInt8 × Int) => r = stp n_10.2.2.2 (arR n_10.1) n_10.2.1 n_10.2.2.1) fun n_11 => .ex (fun (x : Int × List UInt8 × List UInt8 × Int) => eqL [AV.int .u8 3, AV.str h, AV.str h, AV.int .i64 n_11.2] [AV.int .u8 x.1, AV.str x.2.1, AV.str x.2.2.1, AV.int .i64 x.2.2.2] ∧ (x.1 = 3 ∨ x.1 = 4 ∨ x.1 = 5 ∨ x.1 = 6) ∧ x.2.1.length < 274877906944 ∧ x.2.2.1.length < 274877906944) fun n_12 => .all (fun (r : List UInt8 × Int) => r = stp n_12.2.2.2 (arR n_12.1) n_12.2.1 n_12.2.2.1) fun n_13 => .ex (fun (x : Int × List UInt8 × List UInt8 × Int) => eqL [AV.int .u8 6, AV.str n_11.1, AV.str n_13.1, AV.int .i64 n_13.2] [AV.int .u8 x.1, AV.str x.2.1, AV.str x.2.2.1, AV.int .i64 x.2.2.2] ∧ (x.1 = 3 ∨ x.1 = 4 ∨ x.1 = 5 ∨ x.1 = 6) ∧ x.2.1.length < 274877906944 ∧ x.2.2.1.length < 274877906944) fun n_14 => .all (fun (r : List UInt8 × Int) => r = stp n_14.2.2.2 (arR n_14.1) n_14.2.1 n_14.2.2.1) fun n_15 => .ite (!decide (n_15.2 = 0)) (.leaf (.ret [.str (Array.toList #[]), .int .i64 n_15.2] [.box [.int .i64 n, .sl ops.length 4 (opG ops)], .arr 1 1 (zf 1 [.int .i64 i]), .arr 1 1 (zf 1 [.int .i64 i]), .arr 1 1 (zf 1 [.int .i64 i])])) (.leaf (.ret [.str n_15.1, .int .i64 0] [.box [.int .i64 n, .sl ops.length 4 (opG ops)], .arr 1 1 (zf 1 [.int .i64 i]), .arr 1 1 (zf 1 [.int .i64 i]), .arr 1 1 (zf 1 [.int .i64 i])]))) (.ex (fun (x : List UInt8) => eqL [AV.str h] [AV.str x] ∧ 0 < x.length ∧ x.length < 1099511627776) fun n_6 => .all (fun (r : List UInt8) => r = negS n_6) fun n_7 => .ex (fun (x : Tp × List (List UInt8) × List UInt8 × List Int) => eqL [AV.agg [AV.int .i64 n, AV.sl ops.length 4 (opG ops)], AV.sl inp.length 1 (ratG inp), AV.str n_7, AV.sl 1 1 (zj (zf 1 [AV.int .i64 i]) 0)] [AV.agg [AV.int .i64 x.1.n, AV.sl x.1.ops.length 4 (opG x.1.ops)], AV.sl x.2.1.length 1 (ratG x.2.1), AV.str x.2.2.1, AV.sl x.2.2.2.length 1 fun (j x_1 : Nat) => AV.int .i64 (dgF x.2.2.2 j)] ∧ zh x.1 = 0 ∧ (↑x.2.1.length : Int) = Tp.n x.1 ∧ allQ x.2.1 ∧ errR x.2.2.1 = 0 ∧ (∀ (i : Int), i ∈ x.2.2.2 → (0 : Int) ≤ i ∧ i < Tp.n x.1) ∧ x.2.2.2.length < 1099511627776) fun n_8 => .all (fun (r : List UInt8 × Int) => r = atT n_8.1 n_8.2.1 n_8.2.2.1 n_8.2.2.2) fun n_9 => .ex (fun (x : Int × List UInt8 × List UInt8 × Int) => eqL [AV.int .u8 4, AV.str n_4.1, AV.str n_9.1, AV.int .i64 n_9.2] [AV.int .u8 x.1, AV.str x.2.1, AV.str x.2.2.1, AV.int .i64 x.2.2.2] ∧ (x.1 = 3 ∨ x.1 = 4 ∨ x.1 = 5 ∨ x.1 = 6) ∧ x.2.1.length < 274877906944 ∧ x.2.2.1.length < 274877906944) fun n_10 => .all (fun (r : List UInt8 × Int) => r = stp n_10.2.2.2 (arR n_10.1) n_10.2.1 n_10.2.2.1) fun n_11 => .ex (fun (x : Int × List UInt8 × List UInt8 × Int) => eqL [AV.int .u8 3, AV.str h, AV.str h, AV.int .i64 n_11.2] [AV.int .u8 x.1, AV.str x.2.1, AV.str x.2.2.1, AV.int .i64 x.2.2.2] ∧ (x.1 = 3 ∨ x.1 = 4 ∨ x.1 = 5 ∨ x.1 = 6) ∧ x.2.1.length < 274877906944 ∧ x.2.2.1.length < 274877906944) fun n_12 => .all (fun (r : List UInt8 × Int) => r = stp n_12.2.2.2 (arR n_12.1) n_12.2.1 n_12.2.2.1) fun n_13 => .ex (fun (x : Int × List UInt8 × List UInt8 × Int) => eqL [AV.int .u8 6, AV.str n_11.1, AV.str n_13.1, AV.int .i64 n_13.2] [AV.int .u8 x.1, AV.str x.2.1, AV.str x.2.2.1, AV.int .i64 x.2.2.2] ∧ (x.1 = 3 ∨ x.1 = 4 ∨ x.1 = 5 ∨ x.1 = 6) ∧ x.2.1.length < 274877906944 ∧ x.2.2.1.length < 274877906944) fun n_14 => .all (fun (r : List UInt8 × Int) => r = stp n_14.2.2.2 (arR n_14.1) n_14.2.1 n_14.2.2.1) fun n_15 => .ite (!decide (n_15.2 = 0)) (.leaf (.ret [.str (Array.toList #[]), .int .i64 n_15.2] [.box [.int .i64 n, .sl ops.length 4 (opG ops)], .arr 1 1 (zf 1 [.int .i64 i]), .arr 1 1 (zf 1 [.int .i64 i]), .arr 1 1 (zf 1 [.int .i64 i])])) (.leaf (.ret [.str n_15.1, .int .i64 0] [.box [.int .i64 n, .sl ops.length 4 (opG ops)], .arr 1 1 (zf 1 [.int .i64 i]), .arr 1 1 (zf 1 [.int .i64 i]), .arr 1 1 (zf 1 [.int .i64 i])])))))) (by kernel_rfl) ?_
 simp only [Tree.holds, ze]
 generalize hF : cenT ⟨n, ops⟩ inp i h = F at hq
 have fin : ∀ (r : List UInt8 × Int) (b : Heap), F = r → RetR Uz 0 Q [.str r.1, .int .i64 r.2] b := by
  intro r b hr
  rw [hr] at hq
  exact RetR.scal hq rfl (by simp [resV])
 refine ⟨(⟨n, ops⟩, inp, [i], h), ⟨⟨⟨⟨rfl, rfl⟩, ⟨rfl, rfl, zc _ _ _⟩, trivial⟩, ⟨rfl, rfl, zc _ _ _⟩, ⟨rfl, rfl, (by rw [jm]; exact jE)⟩, rfl, trivial⟩, h1, h2, by simp, by show h.length < _; omega⟩, ⟨_, rfl⟩, ?_⟩
 intro v hv
 replace hv : v = ((zx ⟨n, ops⟩ inp).1, begT ⟨n, ops⟩ inp [i] h) := hv
 have hv1 : v.1 = (zx ⟨n, ops⟩ inp).1 := by rw [hv]
 have hv2 : v.2 = begT ⟨n, ops⟩ inp [i] h := by rw [hv]
 refine ⟨fun g => ?_, fun g => ?_⟩
 ·have g : v.2 ≠ 0 := by simpa using g
  refine fin ([], v.2) _ ?_
  rw [← hF]
  unfold cenT
  rw [← hv2, if_pos g]
 have g : v.2 = 0 := by simpa using g
 rw [hv2] at g
 obtain ⟨D, v4, _⟩ := xF g
 rw [← hv1] at v4
 have hg : ¬ begT ⟨n, ops⟩ inp [i] h ≠ 0 := fun q => q g
 have hpl := D.l
 have he0 := D.h0
 have hl := zR D.h0
 have hlv := zR v4
 refine ⟨(⟨n, ops⟩, inp, h, [i]), ⟨⟨⟨⟨rfl, rfl⟩, ⟨rfl, rfl, zc _ _ _⟩, trivial⟩, ⟨rfl, rfl, zc _ _ _⟩, rfl, ⟨rfl, rfl, (by rw [jm]; exact jE)⟩, trivial⟩, D.c, D.n, D.q, he0, hpl, by simp⟩, ⟨_, rfl⟩, ?_⟩
 intro a ha
 replace ha : a = atT ⟨n, ops⟩ inp h [i] := ha
 have ga : zN a := ha ▸ qn he0 D.c D.n D.q hpl
 have la := zy ga
 refine ⟨fun q => ?_, fun q => ?_⟩
 ·have q : a.2 ≠ 0 := by simpa using q
  refine fin ([], a.2) _ ?_
  rw [← hF]
  unfold cenT cenH cenD cenW
  rw [if_neg hg, ← ha]
  simp [stpA, stp, endR, q]
 have za : a.2 = 0 := by simpa using q
 repeat' (apply qM)
 all_goals (
  refine ⟨h, ⟨by simp, Y3 he0, by show h.length < _; omega⟩, ⟨_, rfl⟩, ?_⟩
  intro m hm
  replace hm : m = negS h := hm
  have hz := zero_sub he0
  have hng : errR m = 0 := by
   have := (kj Jn.1 he0 (by rw [hz])).1
   rw [hz] at this
   rw [hm]; exact this
  refine ⟨(⟨n, ops⟩, inp, m, [i]), ⟨⟨⟨⟨rfl, rfl⟩, ⟨rfl, rfl, zc _ _ _⟩, trivial⟩, ⟨rfl, rfl, zc _ _ _⟩, rfl, ⟨rfl, rfl, (by rw [jm]; exact jE)⟩, trivial⟩, D.c, D.n, D.q, hng, hpl, by simp⟩, ⟨_, rfl⟩, ?_⟩
  intro c hc
  replace hc : c = atT ⟨n, ops⟩ inp m [i] := hc
  have gc : zN c := hc ▸ qn hng D.c D.n D.q hpl
  have lc := zy gc
  refine ⟨(4, a.1, c.1, c.2), ⟨by simp, .inr (.inl rfl), by show (a.1).length < _; omega, by show (c.1).length < _; omega⟩, ⟨_, rfl⟩, ?_⟩
  intro d hd
  replace hd : d = stp c.2 (arR 4) a.1 c.1 := hd
  have gd : zN d := hd ▸ zG (fun q => ⟨zT ga za, zT gc q⟩)
  have ld := zy gd
  refine ⟨(3, h, h, d.2), ⟨by simp, .inl rfl, by show (h).length < _; omega, by show (h).length < _; omega⟩, ⟨_, rfl⟩, ?_⟩
  intro s hs
  replace hs : s = stp d.2 (arR 3) h h := hs
  have gs : zN s := hs ▸ zG (fun q => ⟨he0, he0⟩)
  have ls := zy gs
  refine ⟨(6, d.1, s.1, s.2), ⟨by simp, .inr (.inr (.inr rfl)), by show (d.1).length < _; omega, by show (s.1).length < _; omega⟩, ⟨_, rfl⟩, ?_⟩
  intro w hw
  replace hw : w = stp s.2 (arR 6) d.1 s.1 := hw
  have hFw : F = endR w := by
   rw [← hF]
   unfold cenT cenH cenD cenW
   rw [if_neg hg, ← hm, ← ha, ← hc, show stpA a.2 c = c from by rw [za]; exact yQ, ← arR4, ← hd, ← arR3, ← hs, ← arR6, ← hw]
  unfold endR at hFw
  refine ⟨fun q => ?_, fun q => ?_⟩
  ·have q : w.2 ≠ 0 := by simpa using q
   rw [if_pos q] at hFw
   exact fin ([], w.2) _ hFw
  ·have q : w.2 = 0 := by simpa using q
   rw [if_neg (fun z => z q)] at hFw
   exact fin (w.1, 0) _ hFw)
def Uq : Ctr := ctrP true (fun p : Tp × List (List UInt8) × Int × Int × List UInt8 => [p.1.av, ratS p.2.1, .int .i64 p.2.2.1, .int .i64 p.2.2.2.1, .str p.2.2.2.2])
 (fun p => midT p.1 ∧ midR p.2.1 ∧ p.2.2.2.2.length < 2 ^ 36) (fun p r => r = croT p.1 p.2.1 p.2.2.1 p.2.2.2.1 p.2.2.2.2)
 (fun p (r : List UInt8 × Int) => (.tup [.str r.1, .int .i64 r.2], []))
theorem zcz : zg Tryz.prog 11 Uq := by
 refine zi (fn := Tryz.f11) (c := Tryz.f11.body.getD .skip) rfl rfl rfl fun p hp O w0 Q hq => ?_
 obtain ⟨⟨n, ops⟩, inp, i, k, h⟩ := p
 replace hq := hq _ rfl
 obtain ⟨h1, h2, h3⟩ := hp
 simp only at h1 h2 h3 hq
 refine zd.run hmix Kq [] 400 (T := .ex (fun (x : Tp × List (List UInt8) × List Int × List UInt8) => eqL [AV.agg [AV.int .i64 n, AV.sl ops.length 4 (opG ops)], AV.sl inp.length 1 (ratG inp), AV.sl 2 1 (zj (zf 1 [AV.int .i64 i, AV.int .i64 k]) 0), AV.str h] [AV.agg [AV.int .i64 x.1.n, AV.sl x.1.ops.length 4 (opG x.1.ops)], AV.sl x.2.1.length 1 (ratG x.2.1), AV.sl x.2.2.1.length 1 fun (j x_1 : Nat) => AV.int .i64 (dgF x.2.2.1 j), AV.str x.2.2.2] ∧ midT x.1 ∧ midR x.2.1 ∧ x.2.2.1.length < 1099511627776 ∧ x.2.2.2.length < 1099511627776) fun n_1 => .all (fun (r : List UInt8 × Int) => r = (Prod.fst (zx n_1.1 n_1.2.1), begT n_1.1 n_1.2.1 n_1.2.2.1 n_1.2.2.2)) fun n_2 => .ite (!decide (n_2.2 = 0)) (.leaf (.ret [.str (Array.toList #[]), .int .i64 n_2.2] [.box [.int .i64 n, .sl ops.length 4 (opG ops)], .arr 2 1 (zf 1 [.int .i64 i, .int .i64 k])])) (.ex (fun (x : Tp × List (List UInt8) × List UInt8 × List Int) => eqL [AV.agg [AV.int .i64 n, AV.sl ops.length 4 (opG ops)], AV.sl inp.length 1 (ratG inp), AV.str h, AV.sl 2 1 (zj (zf 1 [AV.int .i64 i, AV.int .i64 k]) 0)] [AV.agg [AV.int .i64 x.1.n, AV.sl x.1.ops.length 4 (opG x.1.ops)], AV.sl x.2.1.length 1 (ratG x.2.1), AV.str x.2.2.1, AV.sl x.2.2.2.length 1 fun (j x_1 : Nat) => AV.int .i64 (dgF x.2.2.2 j)] ∧ zh x.1 = 0 ∧ (↑x.2.1.length : Int) = Tp.n x.1 ∧ allQ x.2.1 ∧ errR x.2.2.1 = 0 ∧ (∀ (i : Int), i ∈ x.2.2.2 → (0 : Int) ≤ i ∧ i < Tp.n x.1) ∧ x.2.2.2.length < 1099511627776) fun n_3 => .all (fun (r : List UInt8 × Int) => r = atT n_3.1 n_3.2.1 n_3.2.2.1 n_3.2.2.2) fun n_4 => .ite (!decide (n_4.2 = 0)) (.leaf (.ret [.str (Array.toList #[]), .int .i64 n_4.2] [.box [.int .i64 n, .sl ops.length 4 (opG ops)], .arr 2 1 (zf 1 [.int .i64 i, .int .i64 k]), .arr 2 1 (zf 1 [.int .i64 i, .int .i64 k])])) (.ex (fun (x : Tp × List (List UInt8) × List UInt8 × List Int) => eqL [AV.agg [AV.int .i64 n, AV.sl ops.length 4 (opG ops)], AV.sl inp.length 1 (ratG inp), AV.str h, AV.sl 1 1 (zj (zf 1 [AV.int .i64 i]) 0)] [AV.agg [AV.int .i64 x.1.n, AV.sl x.1.ops.length 4 (opG x.1.ops)], AV.sl x.2.1.length 1 (ratG x.2.1), AV.str x.2.2.1, AV.sl x.2.2.2.length 1 fun (j x_1 : Nat) => AV.int .i64 (dgF x.2.2.2 j)] ∧ zh x.1 = 0 ∧ (↑x.2.1.length : Int) = Tp.n x.1 ∧ allQ x.2.1 ∧ errR x.2.2.1 = 0 ∧ (∀ (i : Int), i ∈ x.2.2.2 → (0 : Int) ≤ i ∧ i < Tp.n x.1) ∧ x.2.2.2.length < 1099511627776) fun n_5 => .all (fun (r : List UInt8 × Int) => r = atT n_5.1 n_5.2.1 n_5.2.2.1 n_5.2.2.2) fun n_6 => .ite (!decide (n_6.2 = 0)) (.leaf (.ret [.str (Array.toList #[]), .int .i64 n_6.2] [.box [.int .i64 n, .sl ops.length 4 (opG ops)], .arr 2 1 (zf 1 [.int .i64 i, .int .i64 k]), .arr 2 1 (zf 1 [.int .i64 i, .int .i64 k]), .arr 1 1 (zf 1 [.int .i64 i])])) (.ex (fun (x : Tp × List (List UInt8) × List UInt8 × List Int) => eqL [AV.agg [AV.int .i64 n, AV.sl ops.length 4 (opG ops)], AV.sl inp.length 1 (ratG inp), AV.str h, AV.sl 1 1 (zj (zf 1 [AV.int .i64 k]) 0)] [AV.agg [AV.int .i64 x.1.n, AV.sl x.1.ops.length 4 (opG x.1.ops)], AV.sl x.2.1.length 1 (ratG x.2.1), AV.str x.2.2.1, AV.sl x.2.2.2.length 1 fun (j x_1 : Nat) => AV.int .i64 (dgF x.2.2.2 j)] ∧ zh x.1 = 0 ∧ (↑x.2.1.length : Int) = Tp.n x.1 ∧ allQ x.2.1 ∧ errR x.2.2.1 = 0 ∧ (∀ (i : Int), i ∈ x.2.2.2 → (0 : Int) ≤ i ∧ i < Tp.n x.1) ∧ x.2.2.2.length < 1099511627776) fun n_7 => .all (fun (r : List UInt8 × Int) => r = atT n_7.1 n_7.2.1 n_7.2.2.1 n_7.2.2.2) fun n_8 => .ex (fun (x : Int × List UInt8 × List UInt8 × Int) => eqL [AV.int .u8 4, AV.str n_4.1, AV.str n_6.1, AV.int .i64 n_8.2] [AV.int .u8 x.1, AV.str x.2.1, AV.str x.2.2.1, AV.int .i64 x.2.2.2] ∧ (x.1 = 3 ∨ x.1 = 4 ∨ x.1 = 5 ∨ x.1 = 6) ∧ x.2.1.length < 274877906944 ∧ x.2.2.1.length < 274877906944) fun n_9 => .all (fun (r : List UInt8 × Int) => r = stp n_9.2.2.2 (arR n_9.1) n_9.2.1 n_9.2.2.1) fun n_10 => .ex (fun (x : Int × List UInt8 × List UInt8 × Int) => eqL [AV.int .u8 4, AV.str n_10.1, AV.str n_8.1, AV.int .i64 n_10.2] [AV.int .u8 x.1, AV.str x.2.1, AV.str x.2.2.1, AV.int .i64 x.2.2.2] ∧ (x.1 = 3 ∨ x.1 = 4 ∨ x.1 = 5 ∨ x.1 = 6) ∧ x.2.1.length < 274877906944 ∧ x.2.2.1.length < 274877906944) fun n_11 => .all (fun (r : List UInt8 × Int) => r = stp n_11.2.2.2 (arR n_11.1) n_11.2.1 n_11.2.2.1) fun n_12 => .ex (fun (x : Int × List UInt8 × List UInt8 × Int) => eqL [AV.int .u8 3, AV.str n_12.1, AV.str n_2.1, AV.int .i64 n_12.2] [AV.int .u8 x.1, AV.str x.2.1, AV.str x.2.2.1, AV.int .i64 x.2.2.2] ∧ (x.1 = 3 ∨ x.1 = 4 ∨ x.1 = 5 ∨ x.1 = 6) ∧ x.2.1.length < 274877906944 ∧ x.2.2.1.length < 274877906944) fun n_13 => .all (fun (r : List UInt8 × Int) => r = stp n_13.2.2.2 (arR n_13.1) n_13.2.1 n_13.2.2.1) fun n_14 => .ex (fun (x : Int × List UInt8 × List UInt8 × Int) => eqL [AV.int .u8 5, AV.str h, AV.str h, AV.int .i64 n_14.2] [AV.int .u8 x.1, AV.str x.2.1, AV.str x.2.2.1, AV.int .i64 x.2.2.2] ∧ (x.1 = 3 ∨ x.1 = 4 ∨ x.1 = 5 ∨ x.1 = 6) ∧ x.2.1.length < 274877906944 ∧ x.2.2.1.length < 274877906944) fun n_15 => .all (fun (r : List UInt8 × Int) => r = stp n_15.2.2.2 (arR n_15.1) n_15.2.1 n_15.2.2.1) fun n_16 => .ex (fun (x : Int × List UInt8 × List UInt8 × Int) => eqL [AV.int .u8 6, AV.str n_14.1, AV.str n_16.1, AV.int .i64 n_16.2] [AV.int .u8 x.1, AV.str x.2.1, AV.str x.2.2.1, AV.int .i64 x.2.2.2] ∧ (x.1 = 3 ∨ x.1 = 4 ∨ x.1 = 5 ∨ x.1 = 6) ∧ x.2.1.length < 274877906944 ∧ x.2.2.1.length < 274877906944) fun n_17 => .all (fun (r : List UInt8 × Int) => r = stp n_17.2.2.2 (arR n_17.1) n_17.2.1 n_17.2.2.1) fun n_18 => .ite (!decide (n_18.2 = 0)) (.leaf (.ret [.str (Array.toList #[]), .int .i64 n_18.2] [.box [.int .i64 n, .sl ops.length 4 (opG ops)], .arr 2 1 (zf 1 [.int .i64 i, .int .i64 k]), .arr 2 1 (zf 1 [.int .i64 i, .int .i64 k]), .arr 1 1 (zf 1 [.int .i64 i]), .arr 1 1 (zf 1 [.int .i64 k])])) (.leaf (.ret [.str n_18.1, .int .i64 0] [.box [.int .i64 n, .sl ops.length 4 (opG ops)], .arr 2 1 (zf 1 [.int .i64 i, .int .i64 k]), .arr 2 1 (zf 1 [.int .i64 i, .int .i64 k]), .arr 1 1 (zf 1 [.int .i64 i]), .arr 1 1 (zf 1 [.int .i64 k])])))))) (by kernel_rfl) ?_
 simp only [Tree.holds, ze]
 generalize hF : croT ⟨n, ops⟩ inp i k h = F at hq
 have fin : ∀ (r : List UInt8 × Int) (b : Heap), F = r → RetR Uq 0 Q [.str r.1, .int .i64 r.2] b := by
  intro r b hr
  rw [hr] at hq
  exact RetR.scal hq rfl (by simp [resV])
 refine ⟨(⟨n, ops⟩, inp, [i, k], h), ⟨⟨⟨⟨rfl, rfl⟩, ⟨rfl, rfl, zc _ _ _⟩, trivial⟩, ⟨rfl, rfl, zc _ _ _⟩, ⟨rfl, rfl, (by rw [jm]; exact JS)⟩, rfl, trivial⟩, h1, h2, by simp, by show h.length < _; omega⟩, ⟨_, rfl⟩, ?_⟩
 intro v hv
 replace hv : v = ((zx ⟨n, ops⟩ inp).1, begT ⟨n, ops⟩ inp [i, k] h) := hv
 have hv1 : v.1 = (zx ⟨n, ops⟩ inp).1 := by rw [hv]
 have hv2 : v.2 = begT ⟨n, ops⟩ inp [i, k] h := by rw [hv]
 refine ⟨fun g => ?_, fun g => ?_⟩
 ·have g : v.2 ≠ 0 := by simpa using g
  refine fin ([], v.2) _ ?_
  rw [← hF]
  unfold croT
  rw [← hv2, if_pos g]
 have g : v.2 = 0 := by simpa using g
 rw [hv2] at g
 obtain ⟨D, v4, _⟩ := xF g
 rw [← hv1] at v4
 have hg : ¬ begT ⟨n, ops⟩ inp [i, k] h ≠ 0 := fun q => q g
 have hpl := D.l
 have he0 := D.h0
 have hl := zR D.h0
 have hlv := zR v4
 refine ⟨(⟨n, ops⟩, inp, h, [i, k]), ⟨⟨⟨⟨rfl, rfl⟩, ⟨rfl, rfl, zc _ _ _⟩, trivial⟩, ⟨rfl, rfl, zc _ _ _⟩, rfl, ⟨rfl, rfl, (by rw [jm]; exact JS)⟩, trivial⟩, D.c, D.n, D.q, he0, hpl, by simp⟩, ⟨_, rfl⟩, ?_⟩
 intro a ha
 replace ha : a = atT ⟨n, ops⟩ inp h [i, k] := ha
 have ga : zN a := ha ▸ qn he0 D.c D.n D.q hpl
 have la := zy ga
 refine ⟨fun q => ?_, fun q => ?_⟩
 ·have q : a.2 ≠ 0 := by simpa using q
  refine fin ([], a.2) _ ?_
  rw [← hF]
  unfold croT croF croE croD Go.Nov.croC croB croA
  rw [if_neg hg, ← ha]
  simp [stpA, stp, endR, q]
 have za : a.2 = 0 := by simpa using q
 refine ⟨(⟨n, ops⟩, inp, h, [i]), ⟨⟨⟨⟨rfl, rfl⟩, ⟨rfl, rfl, zc _ _ _⟩, trivial⟩, ⟨rfl, rfl, zc _ _ _⟩, rfl, ⟨rfl, rfl, (by rw [jm]; exact jE)⟩, trivial⟩, D.c, D.n, D.q, he0, (fun x hx => by rw [List.mem_singleton.1 hx]; exact hpl i (by simp)), by simp⟩, ⟨_, rfl⟩, ?_⟩
 intro b hb
 replace hb : b = atT ⟨n, ops⟩ inp h [i] := hb
 have gb : zN b := hb ▸ qn he0 D.c D.n D.q (fun x hx => by rw [List.mem_singleton.1 hx]; exact hpl i (by simp))
 have lb := zy gb
 refine ⟨fun q => ?_, fun q => ?_⟩
 ·have q : b.2 ≠ 0 := by simpa using q
  refine fin ([], b.2) _ ?_
  rw [← hF]
  unfold croT croF croE croD Go.Nov.croC croB croA
  rw [if_neg hg, ← ha, ← hb, show stpA a.2 b = b from by rw [za]; exact yQ]
  simp [stpA, stp, endR, q]
 have zb : b.2 = 0 := by simpa using q
 refine ⟨(⟨n, ops⟩, inp, h, [k]), ⟨⟨⟨⟨rfl, rfl⟩, ⟨rfl, rfl, zc _ _ _⟩, trivial⟩, ⟨rfl, rfl, zc _ _ _⟩, rfl, ⟨rfl, rfl, (by rw [jm]; exact jE)⟩, trivial⟩, D.c, D.n, D.q, he0, (fun x hx => by rw [List.mem_singleton.1 hx]; exact hpl k (by simp)), by simp⟩, ⟨_, rfl⟩, ?_⟩
 intro c hc
 replace hc : c = atT ⟨n, ops⟩ inp h [k] := hc
 have gc : zN c := hc ▸ qn he0 D.c D.n D.q (fun x hx => by rw [List.mem_singleton.1 hx]; exact hpl k (by simp))
 have lc := zy gc
 refine ⟨(4, a.1, b.1, c.2), ⟨by simp, .inr (.inl rfl), by show (a.1).length < _; omega, by show (b.1).length < _; omega⟩, ⟨_, rfl⟩, ?_⟩
 intro d hd
 replace hd : d = stp c.2 (arR 4) a.1 b.1 := hd
 have gd : zN d := hd ▸ zG (fun q => ⟨zT ga za, zT gb zb⟩)
 have ld := zy gd
 refine ⟨(4, d.1, c.1, d.2), ⟨by simp, .inr (.inl rfl), by show (d.1).length < _; omega, by show (c.1).length < _; omega⟩, ⟨_, rfl⟩, ?_⟩
 intro s hs
 replace hs : s = stp d.2 (arR 4) d.1 c.1 := hs
 have gs : zN s := hs ▸ zG (fun q => ⟨zT gd q, zT gc (zb1 (hd ▸ q))⟩)
 have ls := zy gs
 refine ⟨(3, s.1, v.1, s.2), ⟨by simp, .inl rfl, by show (s.1).length < _; omega, by show (v.1).length < _; omega⟩, ⟨_, rfl⟩, ?_⟩
 intro t ht
 replace ht : t = stp s.2 (arR 3) s.1 v.1 := ht
 have gt : zN t := ht ▸ zG (fun q => ⟨zT gs q, v4⟩)
 have lt := zy gt
 refine ⟨(5, h, h, t.2), ⟨by simp, .inr (.inr (.inl rfl)), by show (h).length < _; omega, by show (h).length < _; omega⟩, ⟨_, rfl⟩, ?_⟩
 intro u hu
 replace hu : u = stp t.2 (arR 5) h h := hu
 have gu : zN u := hu ▸ zG (fun q => ⟨he0, he0⟩)
 have lu := zy gu
 refine ⟨(6, t.1, u.1, u.2), ⟨by simp, .inr (.inr (.inr rfl)), by show (t.1).length < _; omega, by show (u.1).length < _; omega⟩, ⟨_, rfl⟩, ?_⟩
 intro w hw
 replace hw : w = stp u.2 (arR 6) t.1 u.1 := hw
 have hFw : F = endR w := by
  rw [← hF]
  unfold croT croF croE croD Go.Nov.croC croB croA
  rw [if_neg hg, ← hv1, ← ha, ← hb, ← hc, show stpA a.2 b = b from by rw [za]; exact yQ, show stpA b.2 c = c from by rw [zb]; exact yQ, ← arR4, ← hd, ← hs, ← arR3, ← ht, ← arR5, ← hu, ← arR6, ← hw]
 unfold endR at hFw
 refine ⟨fun q => ?_, fun q => ?_⟩
 ·have q : w.2 ≠ 0 := by simpa using q
  rw [if_pos q] at hFw
  exact fin ([], w.2) _ hFw
 ·have q : w.2 = 0 := by simpa using q
  rw [if_neg (fun z => z q)] at hFw
  exact fin (w.1, 0) _ hFw
end Go.Proofs.Tryz
end

/- The law of differences. -/
section
set_option maxRecDepth 100000
open Go Go.Sx Go.Proofs Go.Nov
namespace Go.Proofs.Tryz
attribute [local simp] eqKV eqA eqA0 eqH eqB eqL eqL0
theorem KE {t : Tp} {l : List (List UInt8)} (h : XJ t l) : midT t ∧ midR l := by
 obtain ⟨a, _, b, c, d⟩ := h
 exact ⟨⟨by omega, fun j hj => by have := c j hj; omega⟩, by omega, fun j hj => by have := d j hj; omega⟩
def bdfC : Ctr := ctrP true (fun p : Tp × List (List UInt8) × Int × Int × List UInt8 => [p.1.av, ratS p.2.1, .int .i64 p.2.2.1, .int .i64 p.2.2.2.1, .str p.2.2.2.2]) (fun p => qe p.1 ∧ qt p.2.1 ∧ inR .i64 p.2.2.1 ∧ inR .i64 p.2.2.2.1 ∧ p.2.2.2.2.length < 2 ^ 49) (fun _ r => r = true) (fun _ (r : Bool) => (.bool r, []))
noncomputable def GJ1 : Nat → Option Ctr := fun f => if f = 4 then some (XP) else if f = 5 then some (zac) else if f = 6 then some (zdg) else if f = 7 then some (VZ) else if f = 8 then some (cenC) else if f = 9 then some (Uz) else if f = 10 then some (croC) else if f = 11 then some (Uq) else if f = 13 then some (Kb) else if f = 12 then some (V9) else none
theorem zek : ∀ g c, GJ1 g = some c → zg Tryz.prog g c := okIf Yw (okIf zax (okIf zd6 (okIf zak (okIf zeb (okIf zcg (okIf zez (okIf zcz (okIf Ux (okIf Un (zp))))))))))
theorem zeu : zg Tryz.prog 3 bdfC := by
 refine zi (fn := Tryz.f3) (c := Tryz.f3.body.getD .skip) rfl rfl rfl fun p hp O w0 Q hq => ?_
 obtain ⟨⟨n, ops⟩, inp, i, k, h⟩ := p
 replace hq := hq _ rfl
 obtain ⟨h1, h2, h3, h4, h5⟩ := hp
 simp only at h1 h2 h3 h4 h5 hq
 refine zd.run hmix zek [] 400 (T := .ex (fun (x : Tp × List (List UInt8)) => eqL [AV.agg [AV.int .i64 n, AV.sl ops.length 4 (opG ops)], AV.sl inp.length 1 (ratG inp)] [AV.agg [AV.int .i64 x.1.n, AV.sl x.1.ops.length 4 (opG x.1.ops)], AV.sl x.2.length 1 (ratG x.2)] ∧ qe x.1 ∧ qt x.2) fun n_1 => .all (fun (r : Bool) => r = false → XJ n_1.1 n_1.2) fun n_2 => .ite (bif n_2 then true else decide ((200 : Int) < h.length)) (.leaf (.ret [.bool true] [.box [.int .i64 n, .sl ops.length 4 (opG ops)]])) (.ex (fun (x : Tp) => eqL [AV.agg [AV.int .i64 n, AV.sl ops.length 4 (opG ops)]] [AV.agg [AV.int .i64 x.n, AV.sl x.ops.length 4 (opG x.ops)]] ∧ x.ops.length < 1099511627776) fun n_3 => .all (fun (x : Unit) => True) fun n_4 => .side (0 = 0 ∧ 0 ≤ 0 ∧ (0 + inp.length) * 16 ≤ 140737488355328) (.ex (fun (x : Tp × List (List UInt8) × Int × List UInt8) => eqL [AV.agg [AV.int .i64 n, AV.sl ops.length 4 (opG ops)], AV.sl inp.length 1 (ratG inp), AV.int .i64 i, AV.str h] [AV.agg [AV.int .i64 x.1.n, AV.sl x.1.ops.length 4 (opG x.1.ops)], AV.sl x.2.1.length 1 (ratG x.2.1), AV.int .i64 x.2.2.1, AV.str x.2.2.2] ∧ qe x.1 ∧ qt x.2.1 ∧ x.2.2.2.length < 562949953421312) fun n_5 => .all (fun (r : List UInt8 × Int) => r = zP n_5.1 n_5.2.1 n_5.2.2.1 n_5.2.2.2) fun n_6 => .ex (fun (x : Tp × List (List UInt8) × Int × List UInt8) => eqL [AV.agg [AV.int .i64 n, AV.sl ops.length 4 (opG ops)], AV.sl inp.length 1 (ratG inp), AV.int .i64 i, AV.str h] [AV.agg [AV.int .i64 x.1.n, AV.sl x.1.ops.length 4 (opG x.1.ops)], AV.sl x.2.1.length 1 (ratG x.2.1), AV.int .i64 x.2.2.1, AV.str x.2.2.2] ∧ midT x.1 ∧ midR x.2.1 ∧ x.2.2.2.length < 68719476736) fun n_7 => .all (fun (r : List UInt8 × Int) => r = zP n_7.1 n_7.2.1 n_7.2.2.1 n_7.2.2.2) fun n_8 => .ex (fun (x : Tp × List (List UInt8) × Int × List UInt8) => eqL [AV.agg [AV.int .i64 n, AV.sl ops.length 4 (opG ops)], AV.sl inp.length 1 (ratG inp), AV.int .i64 i, AV.str h] [AV.agg [AV.int .i64 x.1.n, AV.sl x.1.ops.length 4 (opG x.1.ops)], AV.sl x.2.1.length 1 (ratG x.2.1), AV.int .i64 x.2.2.1, AV.str x.2.2.2] ∧ qe x.1 ∧ qt x.2.1 ∧ x.2.2.2.length < 562949953421312) fun n_9 => .all (fun (r : List UInt8 × Int) => r = cenT n_9.1 n_9.2.1 n_9.2.2.1 n_9.2.2.2) fun n_10 => .ex (fun (x : Tp × List (List UInt8) × Int × List UInt8) => eqL [AV.agg [AV.int .i64 n, AV.sl ops.length 4 (opG ops)], AV.sl inp.length 1 (ratG inp), AV.int .i64 i, AV.str h] [AV.agg [AV.int .i64 x.1.n, AV.sl x.1.ops.length 4 (opG x.1.ops)], AV.sl x.2.1.length 1 (ratG x.2.1), AV.int .i64 x.2.2.1, AV.str x.2.2.2] ∧ midT x.1 ∧ midR x.2.1 ∧ x.2.2.2.length < 68719476736) fun n_11 => .all (fun (r : List UInt8 × Int) => r = cenT n_11.1 n_11.2.1 n_11.2.2.1 n_11.2.2.2) fun n_12 => .ex (fun (x : Tp × List (List UInt8) × Int × Int × List UInt8) => eqL [AV.agg [AV.int .i64 n, AV.sl ops.length 4 (opG ops)], AV.sl inp.length 1 (ratG inp), AV.int .i64 i, AV.int .i64 k, AV.str h] [AV.agg [AV.int .i64 x.1.n, AV.sl x.1.ops.length 4 (opG x.1.ops)], AV.sl x.2.1.length 1 (ratG x.2.1), AV.int .i64 x.2.2.1, AV.int .i64 x.2.2.2.1, AV.str x.2.2.2.2] ∧ qe x.1 ∧ qt x.2.1 ∧ x.2.2.2.2.length < 562949953421312) fun n_13 => .all (fun (r : List UInt8 × Int) => r = croT n_13.1 n_13.2.1 n_13.2.2.1 n_13.2.2.2.1 n_13.2.2.2.2) fun n_14 => .ex (fun (x : Tp × List (List UInt8) × Int × Int × List UInt8) => eqL [AV.agg [AV.int .i64 n, AV.sl ops.length 4 (opG ops)], AV.sl inp.length 1 (ratG inp), AV.int .i64 i, AV.int .i64 k, AV.str h] [AV.agg [AV.int .i64 x.1.n, AV.sl x.1.ops.length 4 (opG x.1.ops)], AV.sl x.2.1.length 1 (ratG x.2.1), AV.int .i64 x.2.2.1, AV.int .i64 x.2.2.2.1, AV.str x.2.2.2.2] ∧ midT x.1 ∧ midR x.2.1 ∧ x.2.2.2.2.length < 68719476736) fun n_15 => .all (fun (r : List UInt8 × Int) => r = croT n_15.1 n_15.2.1 n_15.2.2.1 n_15.2.2.2.1 n_15.2.2.2.2) fun n_16 => .ex (fun (x : Tp × Tp) => (bif bif bif bif bif decide (n_6.1 = n_8.1) then decide (n_6.2 = n_8.2) else false then decide (n_10.1 = n_12.1) else false then decide (n_10.2 = n_12.2) else false then decide (n_14.1 = n_16.1) else false then decide (n_14.2 = n_16.2) else false) = true → eqL [AV.agg [AV.int .i64 n, AV.sl ops.length 4 (opG ops)], AV.agg [AV.int .i64 n_3.n, AV.sl n_3.ops.length 4 (opG n_3.ops)]] [AV.agg [AV.int .i64 x.1.n, AV.sl x.1.ops.length 4 (opG x.1.ops)], AV.agg [AV.int .i64 x.2.n, AV.sl x.2.ops.length 4 (opG x.2.ops)]] ∧ x.1.ops.length < 1152921504606846976) fun n_17 => .all (fun (x : Bool) => (bif bif bif bif bif decide (n_6.1 = n_8.1) then decide (n_6.2 = n_8.2) else false then decide (n_10.1 = n_12.1) else false then decide (n_10.2 = n_12.2) else false then decide (n_14.1 = n_16.1) else false then decide (n_14.2 = n_16.2) else false) = true → (x = true ↔ n_17.1 = n_17.2)) fun n_18 => .ex (fun (x : List (List UInt8) × List (List UInt8)) => (bif bif bif bif bif bif decide (n_6.1 = n_8.1) then decide (n_6.2 = n_8.2) else false then decide (n_10.1 = n_12.1) else false then decide (n_10.2 = n_12.2) else false then decide (n_14.1 = n_16.1) else false then decide (n_14.2 = n_16.2) else false then n_18 else false) = true → eqL [AV.sl inp.length 1 (ratG inp), AV.sl (0 + inp.length) 1 (zj (appG 0 (zf 1 []) (ratG inp)) 0)] [AV.sl x.1.length 1 (ratG x.1), AV.sl x.2.length 1 (ratG x.2)] ∧ x.1.length < 1152921504606846976) fun n_19 => .all (fun (x : Bool) => (bif bif bif bif bif bif decide (n_6.1 = n_8.1) then decide (n_6.2 = n_8.2) else false then decide (n_10.1 = n_12.1) else false then decide (n_10.2 = n_12.2) else false then decide (n_14.1 = n_16.1) else false then decide (n_14.2 = n_16.2) else false then n_18 else false) = true → (x = true ↔ n_19.1 = n_19.2)) fun n_20 => .leaf (.ret [.bool (bif bif bif bif bif bif bif decide (n_6.1 = n_8.1) then decide (n_6.2 = n_8.2) else false then decide (n_10.1 = n_12.1) else false then decide (n_10.2 = n_12.2) else false then decide (n_14.1 = n_16.1) else false then decide (n_14.2 = n_16.2) else false then n_18 else false then n_20 else false)] [.box [.int .i64 n, .sl ops.length 4 (opG ops)], .arr (0 + inp.length) 1 (appG 0 (zf 1 []) (ratG inp)), .box [.int .i64 n_3.n, .sl n_3.ops.length 4 (opG n_3.ops)]])))) (by kernel_rfl) ?_
 simp only [Tree.holds, ze]
 refine ⟨(⟨n, ops⟩, inp), ⟨by simp [zc], h1, h2⟩, ⟨true, fun g => by cases g⟩, fun r hr => ⟨fun hr2 => ?_, fun hr2 => ?_⟩⟩
 ·exact RetR.scal hq rfl (by simp [resV])
 simp only [orf] at hr2
 replace hr : XJ ⟨n, ops⟩ inp := hr hr2.1
 have hh := of_decide_eq_false hr2.2
 obtain ⟨m1, m2⟩ := KE hr
 refine ⟨⟨n, ops⟩, ⟨by simp [zc], m1.1⟩, ⟨(), trivial⟩, fun _ _ => ⟨⟨trivial, Nat.le_refl _, by have := m2.1; omega⟩, fun _ => ?_⟩⟩
 refine ⟨(⟨n, ops⟩, inp, i, h), ⟨by simp [zc], h1, h2, h5⟩, ⟨_, rfl⟩, ?_⟩
 intro a ha
 refine ⟨(⟨n, ops⟩, inp, i, h), ⟨by simp [zc], m1, m2, by show h.length < _; omega⟩, ⟨_, rfl⟩, ?_⟩
 intro b hb
 refine ⟨(⟨n, ops⟩, inp, i, h), ⟨by simp [zc], h1, h2, h5⟩, ⟨_, rfl⟩, ?_⟩
 intro c hc
 refine ⟨(⟨n, ops⟩, inp, i, h), ⟨by simp [zc], m1, m2, by show h.length < _; omega⟩, ⟨_, rfl⟩, ?_⟩
 intro d hd
 refine ⟨(⟨n, ops⟩, inp, i, k, h), ⟨by simp [zc], h1, h2, h5⟩, ⟨_, rfl⟩, ?_⟩
 intro e he
 refine ⟨(⟨n, ops⟩, inp, i, k, h), ⟨by simp [zc], m1, m2, by show h.length < _; omega⟩, ⟨_, rfl⟩, ?_⟩
 intro f hf
 obtain rfl : a = b := ha.trans hb.symm
 obtain rfl : c = d := hc.trans hd.symm
 obtain rfl : e = f := he.trans hf.symm
 have l1 := m1.1
 have l2 := m2.1
 simp only at l1 l2
 refine ⟨(⟨n, ops⟩, ⟨n, ops⟩), fun _ => ⟨by simp [zc], by show ops.length < _; omega⟩, ⟨true, fun _ => by simp⟩, ?_⟩
 intro e1 he1
 obtain rfl : e1 = true := (he1 (by simp)).2 rfl
 refine ⟨(inp, inp), fun _ => ⟨⟨⟨rfl, rfl, zc _ _ _⟩, ⟨Nat.zero_add _, rfl, fun j o _ _ => by simp [zj, appG]⟩, trivial⟩, by show inp.length < _; omega⟩, ⟨true, fun _ => by simp⟩, ?_⟩
 intro e2 he2
 obtain rfl : e2 = true := (he2 (by simp)).2 rfl
 exact RetR.scal hq rfl (by simp [resV])
end Go.Proofs.Tryz
end

/- From a reading of the arguments to their representation; from a contract to a call. -/
section
namespace Go.Sx
variable [Stat]
open Go.RowKit (Below)
def E0 : Nat → Prop := Own (fun _ => False) []
theorem zg6 (b : Nat) : ¬ E0 b := by
 rintro (h | ⟨e, he, _⟩)
 ·exact h
 ·simp at he
def Tw (P : Program) (W : World) (t : TypeId) (cs : List Value) : Prop := ∃ (H : Type) (enc : TypeId × Value → H) (base fuel : Nat) (d : DataW H) (ps : List MemPlace), DataW.trod enc P W base (fun _ => true) true fuel t cs = some (d, ps) ∧ ∀ n ∈ d.weights P t, n ≤ reachBytes
section
variable {P : Program} {W : World} {t e : TypeId} {cs : List Value}
theorem Kw (ht : P.underlying t = some .string) (h : Tw P W t cs) : ∃ s : List UInt8, cs = [.string ⟨s.toArray⟩] ∧ s.length ≤ reachBytes := by
 obtain ⟨H, enc, base, fuel, d, ps, h, hw⟩ := h
 obtain ⟨s, rfl, hx, _⟩ := DataW.trod_string ht h
 cases hx
 exact ⟨s.data.toList, by simp, hw _ (by simp [DataW.weights])⟩
theorem Z4 {k : IntKind} (ht : P.underlying t = some (.int k)) (h : Tw P W t cs) : ∃ n, cs = [.int k n] ∧ (Lit.int k n).wf = true := by
 obtain ⟨H, enc, base, fuel, d, ps, h, hw⟩ := h
 obtain ⟨n, rfl, hx, hwf⟩ := DataW.trod_int ht h
 exact ⟨n, rfl, hwf⟩
theorem Jh {fs : Array Field} (ht : P.underlying t = some (.struct fs)) (h : Tw P W t cs) : cs.length = P.cellsOf t ∧ ∀ (i : Nat) (f : Field), fs[i]? = some f → Tw P W f.type ((cs.drop f.offset).take (P.cellsOf f.type)) := by
 obtain ⟨H, enc, base, fuel, d, ps, h, hw⟩ := h
 obtain ⟨xs, n, _, hx, hl, hlen, hf⟩ := DataW.trod_struct ht h
 cases hx
 refine ⟨hl, fun i f hfi => ?_⟩
 have hi := hf i f hfi
 have hlt : i < xs.length := by
  rw [hlen]; exact (Array.getElem?_eq_some_iff.1 hfi).1
 rw [List.getElem?_eq_getElem hlt] at hi
 refine ⟨H, enc, base, n, xs[i].1, xs[i].2, hi, fun m hm => hw m ?_⟩
 simp only [DataW.weights, ht]
 exact DataW.weights_mem_each (j := i) (t := f.type) (d := xs[i].1) (by simp [hfi]) (by simp [hlt]) m hm
theorem kJ {H : Type} {d : DataW H} : ∀ {l : List (DataW H)}, d ∈ l → ∀ n ∈ d.weights P e, n ∈ DataW.weightsAll P e l
 | x :: l, hd, n, hn => by
  simp only [DataW.weightsAll, List.mem_append]
  rcases List.mem_cons.1 hd with rfl | hd
  ·exact .inl hn
  ·exact .inr (kJ hd n hn)
theorem UN (ht : P.underlying t = some (.slice e)) (h : Tw P W t cs) : cs = [.slice none 0 0] ∨ ∃ (a : Addr) (len cap : Nat), cs = [.slice (some a) len cap] ∧ len ≤ cap ∧ cap * P.bytesOf e ≤ reachBytes ∧
  ∀ i, i < len → ∃ cs', cs'.length = P.cellsOf e ∧ (∀ o, o < P.cellsOf e → W.cell? ((a.add (i * P.cellsOf e)).add o) = cs'[o]?) ∧ Tw P W e cs' := by
 obtain ⟨H, enc, base, fuel, d, ps, h, hw⟩ := h
 rcases DataW.trod_slice ht h with ⟨rfl, _⟩ | ⟨a, len, cap, elems, rest, n, _, rfl, hx, hb, hl, hm, hlen, hel, hsp, _⟩
 ·exact .inl rfl
 ·right
  cases hx
  obtain ⟨hrl, _⟩ := hsp rfl
  simp only [DataW.weights, ht] at hw
  refine ⟨a, len, cap, rfl, hl, ?_, fun i hi => ?_⟩
  ·have := hw _ (List.mem_cons_self)
   simp only [List.length_map, hlen, hrl] at this
   rwa [show len + (cap - len) = cap by omega] at this
  ·have h1 := hel i hi
   have hlt : i < elems.length := by rw [hlen]; exact hi
   rw [List.getElem?_eq_getElem hlt, Option.bind_eq_some_iff] at h1
   obtain ⟨cs', h2, h3⟩ := h1
   obtain ⟨_, h4, h5⟩ := World.cells?_some h2
   refine ⟨cs', h4, h5, H, enc, base, n, elems[i].1, elems[i].2, h3, fun m hm2 => hw m ?_⟩
   simp only [List.mem_cons, List.mem_append]
   exact .inr (.inl (kJ (d := elems[i].1) (List.mem_map.2 ⟨elems[i], List.getElem_mem hlt, rfl⟩) m hm2))
theorem Q3 {α : Type} (z : α) (cell : α → Nat → AV) (good : α → Prop) {sz : Nat} (ht : P.underlying t = some (.slice e)) (hsz : P.cellsOf e = sz) (hpos : 0 < sz)
  (hel : ∀ cs', Tw P W e cs' → ∃ x : α, good x ∧ ∀ o, o < sz → ∃ c, cs'[o]? = some c ∧ c.oneCell' = true ∧ Rep E0 W (cell x o) [] c) (h : Tw P W t cs) :
  ∃ (l : List α) (v : Value), cs = [v] ∧ (∀ x ∈ l, good x) ∧ l.length * P.bytesOf e ≤ reachBytes ∧ v.oneCell' = true ∧ Rep E0 W (.sl l.length sz fun j => cell (l.getD j z)) [] v := by
 rcases UN ht h with rfl | ⟨a, len, cap, rfl, hl, hw, hx⟩
 ·refine ⟨[], _, rfl, by simp, by simp, rfl, ?_⟩
  simp only [Rep]
  exact ⟨none, 0, rfl, Nat.le_refl _, .inl rfl⟩
 ·rw [hsz] at hx
  have hx2 : ∀ i, ∃ x : α, i < len → good x ∧ ∀ o, o < sz → ∃ c, W.cell? ((a.add (i * sz)).add o) = some c ∧ c.oneCell' = true ∧ Rep E0 W (cell x o) [] c := fun i => by
   by_cases hi : i < len
   ·obtain ⟨cs', h1, h2, h3⟩ := hx i hi
    obtain ⟨x, hg, hc⟩ := hel cs' h3
    exact ⟨x, fun _ => ⟨hg, fun o ho => by
     obtain ⟨c, g1, g2, g3⟩ := hc o ho
     exact ⟨c, by rw [h2 o ho, g1], g2, g3⟩⟩⟩
   ·exact ⟨z, fun h => absurd h hi⟩
  obtain ⟨f, hf⟩ := Classical.axiomOfChoice hx2
  have hgd : ∀ j, j < len → ((List.range len).map f).getD j z = f j := fun j hj => by simp [List.getD, hj]
  refine ⟨(List.range len).map f, _, rfl, fun x hxm => ?_, ?_, rfl, ?_⟩
  ·obtain ⟨i, hi, rfl⟩ := List.mem_map.1 hxm
   exact (hf i (List.mem_range.1 hi)).1
  ·simp only [List.length_map, List.length_range]
   exact Nat.le_trans (Nat.mul_le_mul_right _ hl) hw
  ·simp only [Rep, List.length_map, List.length_range]
   refine ⟨some a, cap, rfl, hl, ?_⟩
   rcases Nat.eq_zero_or_pos len with h0 | h0
   ·exact .inl h0
   ·right
    have hspot : a.spot = none := by
     obtain ⟨c, g1, _⟩ := (hf 0 h0).2 0 hpos
     have := World.cell?_spot g1
     simpa [Addr.add] using this
    refine ⟨a, rfl, hspot, fun j o hj ho => ⟨zg6 _, ?_⟩⟩
    obtain ⟨c, g1, g2, g3⟩ := (hf j hj).2 o ho
    refine ⟨c, ?_, g2, by rw [hgd j hj]; exact g3⟩
    rw [← g1]
    obtain ⟨b, off, spot⟩ := a
    simp only at hspot
    subst hspot
    congr 1
    simp only [Addr.add]
    split <;> split <;> simp_all <;> omega
theorem YF {g : Nat} {fn : Func} {c : Code} (hf : P.funcs[g]? = some fn) (hb : fn.body = some c) (hn : (fn.name == "runtime.NumGoroutine") = false) {ctr : Ctr} (hok : zg P g ctr) {args : List AV} {vals : List Value}
  (hspec : (ctr.spec args []).holds fun r => r = (.bool true, [])) (hr : RepL E0 W args [] vals) (hst : vF E0 W) : Calls P g vals.toArray W fun e W' => e = .returned (.bool true) ∧ Below W.heap.size W W' := by
 have hn' : ¬ fn.name = "runtime.NumGoroutine" := by simpa using hn
 have hg : Good (fun _ => False) W [] := ⟨fun b h => h.elim, fun i e ad he => by simp at he, hst⟩
 have hh : HRep (Own (fun _ => False) []) W [] [] := ⟨rfl, fun i j e f a b he => by simp at he, fun i e a he => by simp at he, fun i e b he => by simp at he⟩
 rcases hok args [] _ hspec (fun _ => rfl) (fun _ => False) W [] vals hg hh hr with ⟨_, h⟩ | ⟨v, w', h, _⟩
 ·refine h.mono ?_
  rintro e W' ⟨v, rfl, r, hs, σ', hq, h1, _, _, _, _, hx⟩
  cases hq
  simp only [Rep] at h1
  subst h1
  exact ⟨rfl, hx.os, hx.tape, hx.output, hx.size, fun k hk => hx.keep k hk fun ⟨e, he, _⟩ => by simp at he⟩
 ·simp [callFunc, hf, hn', hb] at h
end
end Go.Sx
end

/- Recursive data as arguments; package-level maps that read as they are laid. -/
section
namespace Go.Sx
variable [Stat]
section
variable {P : Program} {W : World} {t e : TypeId} {cs : List Value}
end
section
open Go.WideElems Go.ChangeMaps
variable {H : Type} {enc : TypeId × Value → H} {P : Program} {W : World} {base : Nat} {sp : Nat → Bool} {held : Bool}
end
end Go.Sx
end

/- What rows hand to laws about tapes: arguments as data. -/
section
set_option maxRecDepth 100000
namespace Go.Proofs.YtbnoamkgjjbfmaaGreat
open Go Go.Sx Go.Nov Go.Proofs.Tryz Go.ChangeShapes Go.WideShapes Go.ChangeAt Go.RowKit
theorem Ji : Tryz.prog.cellsOf 26 = 1 := by kernel_rfl
theorem uf : Tryz.prog.cellsOf 3 = 1 := by kernel_rfl
theorem zb3 : Tryz.prog.cellsOf 5 = 1 := by kernel_rfl
theorem WM : Tryz.prog.cellsOf 40 = 4 := by kernel_rfl
theorem zb4 : Tryz.prog.cellsOf 22 = 1 := by kernel_rfl
theorem Xa : Tryz.prog.cellsOf 24 = 2 := by kernel_rfl
theorem zbj {W : World} {cs : List Value} (h : Tw Tryz.prog W 40 cs) : ∃ x : TOp, (JC x ∧ x.rat.length ≤ reachBytes) ∧ cs = [.int .u8 x.kind, .int .i64 x.a, .int .i64 x.b, .string ⟨x.rat.toArray⟩] := by
 obtain ⟨hl, hf⟩ := Jh Tryz.underlying40 h
 rw [WM] at hl
 match cs, hl with
 | [a, b, c, d], _ =>
  have h0 : Tw Tryz.prog W 5 (([a, b, c, d].drop 0).take (Tryz.prog.cellsOf 5)) := hf 0 _ rfl
  rw [zb3] at h0
  replace h0 : Tw Tryz.prog W 5 [a] := h0
  have h1 : Tw Tryz.prog W 3 (([a, b, c, d].drop 1).take (Tryz.prog.cellsOf 3)) := hf 1 _ rfl
  rw [uf] at h1
  replace h1 : Tw Tryz.prog W 3 [b] := h1
  have h2 : Tw Tryz.prog W 3 (([a, b, c, d].drop 2).take (Tryz.prog.cellsOf 3)) := hf 2 _ rfl
  rw [uf] at h2
  replace h2 : Tw Tryz.prog W 3 [c] := h2
  have h3 : Tw Tryz.prog W 26 (([a, b, c, d].drop 3).take (Tryz.prog.cellsOf 26)) := hf 3 _ rfl
  rw [Ji] at h3
  replace h3 : Tw Tryz.prog W 26 [d] := h3
  obtain ⟨k, e0, w0⟩ := Z4 Tryz.underlying5 h0
  obtain ⟨n, e1, w1⟩ := Z4 Tryz.underlying3 h1
  obtain ⟨m, e2, w2⟩ := Z4 Tryz.underlying3 h2
  obtain ⟨u, e3, w3⟩ := Kw Tryz.underlying26 h3
  cases e0; cases e1; cases e2; cases e3
  refine ⟨⟨k, n, m, u⟩, ⟨?_, w3⟩, rfl⟩
  have := reachBytes_lt
  show u.length < _
  omega
theorem zbm {W : World} {cs : List Value} (h : Tw Tryz.prog W 24 cs) : ∃ t : Tp, qe t ∧ Rep E0 W t.av [] (.agg cs.toArray) := by
 obtain ⟨hl, hf⟩ := Jh Tryz.underlying24 h
 rw [Xa] at hl
 match cs, hl with
 | [a, b], _ =>
  have h0 : Tw Tryz.prog W 3 (([a, b].drop 0).take (Tryz.prog.cellsOf 3)) := hf 0 _ rfl
  rw [uf] at h0
  replace h0 : Tw Tryz.prog W 3 [a] := h0
  have h1 : Tw Tryz.prog W 22 (([a, b].drop 1).take (Tryz.prog.cellsOf 22)) := hf 1 _ rfl
  rw [zb4] at h1
  replace h1 : Tw Tryz.prog W 22 [b] := h1
  obtain ⟨n, e0, w0⟩ := Z4 Tryz.underlying3 h0
  obtain ⟨l, v, e1, gl, wl, _, rl⟩ := Q3 TOp.nil TOp.cell (fun x => JC x ∧ x.rat.length ≤ reachBytes) Tryz.underlying22 WM (by decide) (fun cs' h' => by
   obtain ⟨x, hx, rfl⟩ := zbj h'
   refine ⟨x, hx, fun o ho => ?_⟩
   match o, ho with
   | 0, _ => exact ⟨_, rfl, rfl, by simp [TOp.cell, Rep]⟩
   | 1, _ => exact ⟨_, rfl, rfl, by simp [TOp.cell, Rep]⟩
   | 2, _ => exact ⟨_, rfl, rfl, by simp [TOp.cell, Rep]⟩
   | 3, _ => exact ⟨_, rfl, rfl, by simp [TOp.cell, Rep]⟩) h1
  cases e0; cases e1
  have b1 : Tryz.prog.bytesOf 40 = 40 := by kernel_rfl
  rw [b1] at wl
  have hr := reachBytes_lt
  refine ⟨⟨n, l⟩, ⟨by show l.length < _; omega, fun j hj => (gl (l.getD j TOp.nil) (by simp only at hj; simp [List.getD, hj])).1⟩, ?_⟩
  ·simp only [RepL, Rep, Tp.av]
   exact ⟨_, rfl, _, _, rfl, rfl, _, _, rfl, rl, rfl⟩
theorem Uw {W : World} {cs : List Value} (h : Tw Tryz.prog W 25 cs) : ∃ (v : Value) (l : List (List UInt8)), cs = [v] ∧ qt l ∧ Rep E0 W (ratS l) [] v := by
 obtain ⟨l, v, e1, gl, wl, _, rl⟩ := Q3 [] (fun (x : List UInt8) _ => AV.str x) (fun x => x.length ≤ reachBytes) Tryz.underlying25 Ji (by decide) (fun cs' h' => by
   obtain ⟨x, rfl, hx⟩ := Kw Tryz.underlying26 h'
   refine ⟨x, hx, fun o ho => ?_⟩
   match o, ho with
   | 0, _ => exact ⟨_, rfl, rfl, by simp [Rep]⟩) h
 have b1 : Tryz.prog.bytesOf 26 = 16 := by kernel_rfl
 rw [b1] at wl
 have hr := reachBytes_lt
 exact ⟨v, l, e1, ⟨by omega, fun j hj => by have := gl (l.getD j []) (by simp [List.getD, hj]); omega⟩, rl⟩
theorem zc9 {W : World} {t : TypeId} {cs : List Value} (ht : Tryz.prog.underlying t = some .string) (h : Tw Tryz.prog W t cs) : ∃ s : List UInt8, cs = [.string ⟨s.toArray⟩] ∧ s.length < 2 ^ 49 ∧ Rep E0 W (.str s) [] (.string ⟨s.toArray⟩) := by
 obtain ⟨s, rfl, hs⟩ := Kw ht h
 have hr := reachBytes_lt
 exact ⟨s, rfl, by omega, by simp [Rep]⟩
theorem XA {W : World} {cs : List Value} (h : Tw Tryz.prog W 3 cs) : ∃ n : Int, cs = [.int .i64 n] ∧ inR .i64 n ∧ Rep E0 W (.int .i64 n) [] (.int .i64 n) := by
 obtain ⟨n, rfl, hn⟩ := Z4 Tryz.underlying3 h
 refine ⟨n, rfl, ?_, by simp [Rep]⟩
 simp only [Lit.wf, Bool.and_eq_true, decide_eq_true_eq] at hn
 exact hn
end Go.Proofs.YtbnoamkgjjbfmaaGreat
end

/- For every input the law returns true, and each argument reads behind the call as it read before. -/
section
set_option maxRecDepth 100000
namespace Go.Proofs.YtbnoamkgjjbfmaaGreat
open Go Go.Sx Go.Nov Go.Proofs.Tryz Go.ChangeShapes Go.WideShapes Go.ChangeAt Go.RowKit
theorem walk {W : World} {v0 v1 v2 v3 v4 : List Value} (h0 : Tw Tryz.prog W 24 v0) (h1 : Tw Tryz.prog W 25 v1) (h2 : Tw Tryz.prog W 3 v2) (h3 : Tw Tryz.prog W 3 v3) (h4 : Tw Tryz.prog W 26 v4) :
  ∃ s1 : Value, v1 = [s1] ∧ ∃ s2 : Value, v2 = [s2] ∧ ∃ s3 : Value, v3 = [s3] ∧ ∃ s4 : Value, v4 = [s4] ∧ Calls Tryz.prog 3 #[.agg v0.toArray, s1, s2, s3, s4] W fun e W' => e = .returned (.bool true) ∧ Below W.heap.size W W' := by
 obtain ⟨t, tg, tr⟩ := zbm h0
 obtain ⟨s1, inp, rfl, inpg, inpr⟩ := Uw h1
 obtain ⟨i, rfl, ig, ir⟩ := XA h2
 obtain ⟨k, rfl, kg, kr⟩ := XA h3
 obtain ⟨h, rfl, hg, hr⟩ := zc9 Tryz.underlying26 h4
 refine ⟨_, rfl, ?_⟩
 refine ⟨_, rfl, ?_⟩
 refine ⟨_, rfl, ?_⟩
 refine ⟨_, rfl, ?_⟩
 refine YF (fn := Tryz.f3) (c := Tryz.f3.body.getD .skip) rfl rfl rfl zeu (args := [t.av, ratS inp, .int .i64 i, .int .i64 k, .str h]) (vals := [.agg v0.toArray, s1, .int .i64 i, .int .i64 k, .string ⟨h.toArray⟩]) ?_ ?_ YB
 ·refine ⟨(t, inp, i, k, h), ⟨?_, ⟨tg, inpg, ig, kg, hg⟩⟩, ⟨true, rfl⟩, ?_⟩
  ·simp [eqL, eqA, eqA0, eqL0, Tp.av, opS, ratS, zc]
  ·rintro _ rfl
   rfl
 ·exact ⟨_, _, rfl, tr, ⟨_, _, rfl, inpr, ⟨_, _, rfl, ir, ⟨_, _, rfl, kr, ⟨_, _, rfl, hr, rfl⟩⟩⟩⟩⟩
theorem own : ownKnob Tryz.prog.godebug = none := by kernel_rfl
theorem laid : laidOutB Tryz.prog = true := by kernel_rfl
theorem lifted (os : Os) (started : os.Started) (H : Type) (enc : TypeId × Value → H) :
  ReturnsInHanded {} Tryz.checked os 3 .any (Rows.bumpDiffersSpec.pre6 enc Tryz.prog Tryz.f3 Rows.bumpDiffersRow.domain false) (Rows.bumpDiffersSpec.post enc Tryz.prog Tryz.f3 false true false false) := by
 refine returnsInHanded_of_change_sized (C := Tryz.checked) own started (by kernel_rfl) Tryz.func3
  (ChangeSpec.witness6 (enc := enc) (C := Tryz.checked) false ⟨#[], #[.agg #[.int .i64 0, .slice none 0 0], .slice none 0 0, .int .i64 0, .int .i64 0, .string ⟨#[]⟩], []⟩ 8 (by kernel_rfl) (by kernel_rfl) (by kernel_rfl) (by kernel_rfl)) ?_
 intro W base args ds gs before hval0 hW hcnd hwt _
 have hval : ∀ (j : Nat) t v, Tryz.f3.params[j]? = some t → args[j]? = some v → Value.okWide Tryz.prog W .any base t v := hval0
 have hW' := hW
 obtain ⟨p, q, hA0, hV, rfl, hfz, hnd⟩ := hW
 have hA : DataW.TrodAll enc Tryz.prog W 0 (fun _ => true) true Tryz.f3.params.toList args.toList ds p := hA0
 rw [Tryz.params3] at hA hval
 obtain ⟨v0, vs0, d0, ds0, p0, q0, hargs, rfl, rfl, h0, r0⟩ := trodAll_cons hA
 obtain ⟨v1, vs1, d1, ds1, p1, q1, rfl, rfl, rfl, h1, r1⟩ := trodAll_cons r0
 obtain ⟨v2, vs2, d2, ds2, p2, q2, rfl, rfl, rfl, h2, r2⟩ := trodAll_cons r1
 obtain ⟨v3, vs3, d3, ds3, p3, q3, rfl, rfl, rfl, h3, r3⟩ := trodAll_cons r2
 obtain ⟨v4, vs4, d4, ds4, p4, q4, rfl, rfl, rfl, h4, r4⟩ := trodAll_cons r3
 obtain ⟨rfl, rfl, rfl⟩ := trodAll_nil r4
 obtain rfl : args = #[v0, v1, v2, v3, v4] := by cases args; simp_all
 obtain ⟨rfl, rfl⟩ := trodVars_none hV
 clear hA0 hval0
 simp only [List.append_nil] at hW' hwt
 have hw : ∀ (j : Nat) (t : TypeId) (d : DataW H), [24, 25, 3, 3, 26][j]? = some t → [d0, d1, d2, d3, d4][j]? = some d → ∀ n ∈ d.weights Tryz.prog t, n ≤ reachBytes := fun j t d ht hd n hn => by
  have := List.all_eq_true.1 hwt n (DataW.weights_mem_each (j := j) (t := t) (d := d) (by exact ht) (by exact hd) n hn)
  simpa using this
 obtain ⟨c0, rfl, _⟩ := okWide_struct Tryz.underlying24 (hval 0 24 v0 rfl rfl)
 obtain ⟨a1, l1, k1, rfl⟩ := okWide_slice Tryz.underlying25 (hval 1 25 v1 rfl rfl)
 obtain ⟨c2, rfl⟩ := okWide_int Tryz.underlying3 (hval 2 3 v2 rfl rfl)
 obtain ⟨c3, rfl⟩ := okWide_int Tryz.underlying3 (hval 3 3 v3 rfl rfl)
 obtain ⟨c4, rfl⟩ := okWide_string Tryz.underlying26 (hval 4 26 v4 rfl rfl)
 have t0 : Tw Tryz.prog W 24 c0.toList := by
  obtain ⟨fuel, hf⟩ := h0
  exact ⟨H, enc, 0, fuel, d0, p0, by simpa [Value.cells] using hf, hw 0 _ d0 rfl rfl⟩
 have t1 : Tw Tryz.prog W 25 [.slice a1 l1 k1] := by
  obtain ⟨fuel, hf⟩ := h1
  exact ⟨H, enc, 0, fuel, d1, p1, by simpa [Value.cells] using hf, hw 1 _ d1 rfl rfl⟩
 have t2 : Tw Tryz.prog W 3 [.int .i64 c2] := by
  obtain ⟨fuel, hf⟩ := h2
  exact ⟨H, enc, 0, fuel, d2, p2, by simpa [Value.cells] using hf, hw 2 _ d2 rfl rfl⟩
 have t3 : Tw Tryz.prog W 3 [.int .i64 c3] := by
  obtain ⟨fuel, hf⟩ := h3
  exact ⟨H, enc, 0, fuel, d3, p3, by simpa [Value.cells] using hf, hw 3 _ d3 rfl rfl⟩
 have t4 : Tw Tryz.prog W 26 [.string c4] := by
  obtain ⟨fuel, hf⟩ := h4
  exact ⟨H, enc, 0, fuel, d4, p4, by simpa [Value.cells] using hf, hw 4 _ d4 rfl rfl⟩
 have hlt : ∀ x ∈ p0 ++ (p1 ++ (p2 ++ (p3 ++ p4))), x.block < W.heap.size := fun x hx => by simpa using hW'.lt x (by simpa using hx)
 obtain ⟨s1, e1, s2, e2, s3, e3, s4, e4, hcall⟩ := walk t0 t1 t2 t3 t4
 cases e1
 cases e2
 cases e3
 cases e4
 simp only [Array.toArray_toList] at hcall
 refine hcall.mono fun e W' ⟨he, hb⟩ => ?_
 subst he
 refine ⟨_, rfl, _, _, _, [], p0 ++ (p1 ++ (p2 ++ (p3 ++ p4))), [], hW', trodAll_mk1 (shut_bool Tryz.underlying4 true), ?_, rfl, hb.frame _, fun h => by cases h⟩
 have H := trodAll_cons_mk (Below.trod laid (by kernel_rfl) (of_decide_eq_true (by kernel_rfl)) h0 hb fun x hx => hlt x (by simp [hx])) (trodAll_cons_mk (Below.trod laid (by kernel_rfl) (of_decide_eq_true (by kernel_rfl)) h1 hb fun x hx => hlt x (by simp [hx])) (trodAll_cons_mk (Below.trod laid (by kernel_rfl) (of_decide_eq_true (by kernel_rfl)) h2 hb fun x hx => hlt x (by simp [hx])) (trodAll_cons_mk (Below.trod laid (by kernel_rfl) (of_decide_eq_true (by kernel_rfl)) h3 hb fun x hx => hlt x (by simp [hx])) (trodAll_cons_mk (Below.trod laid (by kernel_rfl) (of_decide_eq_true (by kernel_rfl)) h4 hb fun x hx => hlt x (by simp [hx])) (trodAll_mk0)))))
 simp only [List.append_nil] at H
 exact H
theorem over : Rows.bumpDiffersRow.holds Tryz.pinned (OpenSpec.ofChange Rows.bumpDiffersSpec) :=
 OpenClaim.holds_of_wide 3 Tryz.f3 rfl rfl rfl rfl rfl rfl rfl ⟨rfl, rfl, rfl, rfl, rfl⟩ rfl rfl rfl rfl rfl (by kernel_rfl) Tryz.func3 (by kernel_rfl)
  (of_decide_eq_true (by kernel_rfl)) (by unfold Func.isWrapper; first | (rw [if_pos (by decide +kernel)]; kernel_rfl) | (rw [if_neg (by decide +kernel)]; exact ⟨rfl, rfl⟩))
  (fun os started H enc _ => lifted os started H enc)
theorem bumpDiffers_holds : Rows.BumpDiffersSaid := over
end Go.Proofs.YtbnoamkgjjbfmaaGreat
end
