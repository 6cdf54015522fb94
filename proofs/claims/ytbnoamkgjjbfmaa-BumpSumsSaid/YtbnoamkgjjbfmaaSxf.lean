/- The law returns true for every input, and each argument reads afterwards as it read before; no condition. -/
import Derived.Test.YtbnoamkgjjbfmaaSxe
import Derived.SizedLaws
import Derived.ChangeArms
import Derived.Deep.Slices
import Derived.Carry
import Derived.LaidMore
import Derived.WideKeyElems2
import Derived.ProofKit
import Derived.OpenShut
import Derived.ReadAgain
import Derived.Test.YtbnoamkgjjbfmaaRows
set_option linter.unusedVariables false
set_option linter.unusedSimpArgs false
set_option linter.unusedSectionVars false

/- Differences: Central, Cross. -/
section
set_option maxRecDepth 100000
open Go Go.Sx Go.Proofs Go.Nov
namespace Go.Proofs.Try
attribute [local simp] eqKV eqA eqA0 eqH eqB eqL eqL0
theorem qo {A B : Prop} (ha : A) (hb : B) : (∃ _ : Bool, True) ∧ ∀ n : Bool, True → (n = true → A) ∧ (n = false → B) := ⟨⟨true, trivial⟩, fun _ _ => ⟨fun _ => ha, fun _ => hb⟩⟩
theorem yw {t : Tp} {pl : List Int} : qP t pl = true ↔ ∀ j, j < pl.length → 0 ≤ dgF pl j ∧ dgF pl j < t.n := by
 unfold qP
 rw [List.all_eq_true]
 constructor
 ·intro g j hj
  have := g (dgF pl j) (by simp [dgF, List.getD, hj])
  simpa using this
 ·intro g x hx
  obtain ⟨j, hj, rfl⟩ := List.getElem_of_mem hx
  have := g j hj
  simp only [dgF, List.getD, List.getElem?_eq_getElem hj, Option.getD_some] at this
  simpa using this
theorem JQ {t : Tp} {pl : List Int} (h : qP t pl = true) : ∀ i ∈ pl, 0 ≤ i ∧ i < t.n := by
 intro i hi2
 have := List.all_eq_true.1 h i hi2
 simpa using this
theorem UE {x n : Int} (h : (!bif decide (0 ≤ x) then decide (x < n) else false) = false) : 0 ≤ x ∧ x < n := by
 by_cases a : 0 ≤ x
 ·by_cases b : x < n
  ·exact ⟨a, b⟩
  ·rw [decide_eq_true a, decide_eq_false b] at h; cases h
 ·rw [decide_eq_false a] at h; cases h
theorem Yf {i k : Int} : eqG 2 1 (zc 1 [.int .i64 i, .int .i64 k]) (tgI .i64 (dgF [i, k])) := by
 intro j o hj ho
 obtain rfl : o = 0 := by omega
 rcases (show j = 0 ∨ j = 1 by omega) with rfl | rfl <;> rfl
theorem wY {e : Int} {r : List UInt8 × Int} (h : qG r) : qG (stpA e r) := by
 unfold stpA
 by_cases g : e = 0
 ·rw [if_neg (fun q => q g)]; exact h
 ·rw [if_pos g]; exact ⟨fun q => absurd q g, fun _ => rfl⟩
theorem UG {r : List UInt8 × Int} : stpA 0 r = r := if_neg (fun q => q rfl)
theorem xH {e : Int} {r : List UInt8 × Int} (h : (stpA e r).2 = 0) : e = 0 := by
 unfold stpA at h
 by_cases g : e = 0
 ·exact g
 ·rw [if_pos g] at h; exact absurd h g
theorem Ux {e k : Int} {x y : List UInt8} (h : (stp e (arR k) x y).2 = 0) : e = 0 := by
 unfold stp at h
 by_cases g : e = 0
 ·exact g
 ·rw [if_pos g] at h; exact absurd h g
theorem YB {t : Tp} {inp : List (List UInt8)} {h : List UInt8} {i k : Int} (hh : errR h = 0) (p1 : zf t = 0) (p2 : (inp.length : Int) = t.n) (p3 : allQ inp) (hv : errR (zw t inp).1 = 0) (hi2 : 0 ≤ i ∧ i < t.n) (hk : 0 ≤ k ∧ k < t.n) : qG (croE t inp i k h) ∧ qG (croF t inp i k h) := by
 have ga : qG (atT t inp h [i, k]) := wm hh p1 p2 p3 (by simp; omega)
 have gb : qG (croA t inp i k h) := wY (wm hh p1 p2 p3 (by simp; omega))
 have gc : qG (croB t inp i k h) := wY (wm hh p1 p2 p3 (by simp; omega))
 have gd : qG (croC t inp i k h) := by
  unfold croC; rw [← arR4]
  exact qS fun q => ⟨jt ga (xH (xH q)), jt gb (xH q)⟩
 have gs : qG (croD t inp i k h) := by
  unfold croD; rw [← arR4]
  exact qS fun q => ⟨jt gd q, jt gc (Ux (k := 4) (by rw [arR4]; exact q))⟩
 have gt : qG (croE t inp i k h) := by
  unfold croE; rw [← arR3]
  exact qS fun q => ⟨jt gs q, hv⟩
 refine ⟨gt, ?_⟩
 unfold croF; rw [← arR5]
 exact qS fun _ => ⟨hh, hh⟩
noncomputable def GE3 : Nat → Option Ctr := fun f => if f = 24 then some (JH) else if f = 41 then some (ddoC) else if f = 42 then some (datC) else none
theorem UK : ∀ g c, GE3 g = some c → ze Try.prog g c := okIf yJ (okIf yH (okIf Yw (zz)))
def HCr (t : Tp) (inp : List (List UInt8)) (e : Int) (h : List UInt8) (i k : Int) : Heap := [HDf t inp e, .box [.str h], .box [.int .i64 i], .box [.int .i64 k]]
structure XCr where
 t : Tp
 inp : List (List UInt8)
 h : List UInt8
 i : Int
 k : Int
 v : List UInt8
def U6 : Ctr := ctrT false false (fun p : XCr => [.ptr 0 0, .str p.v, .ptr 1 0, .ptr 2 0, .ptr 3 0]) (fun p => HCr p.t p.inp 0 p.h p.i p.k)
 (fun p => p.v = (zw p.t p.inp).1 ∧ (zw p.t p.inp).2 = 0 ∧ errR p.h = 0 ∧ 0 ≤ p.i ∧ p.i < p.t.n ∧ 0 ≤ p.k ∧ p.k < p.t.n)
 (fun p r => r = (croE p.t p.inp p.i p.k p.h, croF p.t p.inp p.i p.k p.h))
 (fun p (r : (List UInt8 × Int) × List UInt8 × Int) => (.tup [.str r.1.1, .str r.2.1], HCr p.t p.inp r.2.2 p.h p.i p.k))
theorem Ue : ze Try.prog 49 U6 := by
 refine jw (fn := Try.f49) (c := Try.f49.body.getD .skip) rfl rfl rfl (fun h => by cases h) fun p hp O w0 σ0 Q hl0 hq => ?_
 obtain ⟨⟨n, ops⟩, inp, h, i, k, v⟩ := p
 obtain ⟨hv, hv0, he0, hi0, hi1, hk0, hk1⟩ := hp
 simp only at hv hv0 he0 hi0 hi1 hk0 hk1 hq
 refine zb.run hmix UK [] 400 (T := .all (fun (x : Bool) => True) fun n_1 => .ite n_1 (.all (fun (x : Bool) => True) fun n_2 => .ite n_2 (.ex (fun (x : Tp × List (List UInt8) × Int × List UInt8 × List Int) => eqL [AV.ptr 0 0, AV.str h, AV.osl 1 1 0 2] [AV.ptr 0 0, AV.str (Prod.fst (Prod.snd (x.2.2))), AV.osl 1 1 0 (List.length (Prod.snd (Prod.snd (x.2.2))))] ∧ eqH [.box [AV.int .i64 n, AV.sl ops.length 4 (opG ops), AV.sl inp.length 1 (ratG inp), AV.int .i64 0], .arr 2 1 (zc 1 [AV.int .i64 i, AV.int .i64 k])] [.box [AV.int .i64 (Tp.n x.1), AV.sl (List.length (Tp.ops x.1)) 4 (opG (Tp.ops x.1)), AV.sl (List.length (x.2.1)) 1 (ratG (x.2.1)), AV.int .i64 (Prod.fst (x.2.2))], Blk.arrI .i64 (List.length (Prod.snd (Prod.snd (x.2.2)))) (dgF (Prod.snd (Prod.snd (x.2.2))))] ∧ 2 = 2 ∧ zf x.1 = 0 ∧ (↑(List.length (x.2.1)) : Int) = Tp.n x.1 ∧ allQ (x.2.1) ∧ errR (Prod.fst (Prod.snd (x.2.2))) = (0 : Int) ∧ (∀ (i : Int), i ∈ Prod.snd (Prod.snd (x.2.2)) → (0 : Int) ≤ i ∧ i < Tp.n x.1) ∧ List.length (Prod.snd (Prod.snd (x.2.2))) < 1099511627776) fun n => .all (fun (r : List UInt8 × Int) => r = stpA (Prod.fst (n.2.2)) (atT n.1 (n.2.1) (Prod.fst (Prod.snd (n.2.2))) (Prod.snd (Prod.snd (n.2.2))))) fun n_3 => .all (fun (x : Bool) => True) fun n_4 => .ite n_4 (.all (fun (x : Bool) => True) fun n_5 => .ite n_5 (.ex (fun (x : Tp × List (List UInt8) × Int × List UInt8 × List Int) => eqL [AV.ptr 0 0, AV.str h, AV.osl 1 1 0 1] [AV.ptr 0 0, AV.str (Prod.fst (Prod.snd (x.2.2))), AV.osl 1 1 0 (List.length (Prod.snd (Prod.snd (x.2.2))))] ∧ eqH [.box [AV.int .i64 (Tp.n n.1), AV.sl (List.length (Tp.ops n.1)) 4 (opG (Tp.ops n.1)), AV.sl (List.length (n.2.1)) 1 (ratG (n.2.1)), AV.int .i64 n_3.2], .arr 1 1 (zc 1 [AV.int .i64 i])] [.box [AV.int .i64 (Tp.n x.1), AV.sl (List.length (Tp.ops x.1)) 4 (opG (Tp.ops x.1)), AV.sl (List.length (x.2.1)) 1 (ratG (x.2.1)), AV.int .i64 (Prod.fst (x.2.2))], Blk.arrI .i64 (List.length (Prod.snd (Prod.snd (x.2.2)))) (dgF (Prod.snd (Prod.snd (x.2.2))))] ∧ 2 = 2 ∧ zf x.1 = 0 ∧ (↑(List.length (x.2.1)) : Int) = Tp.n x.1 ∧ allQ (x.2.1) ∧ errR (Prod.fst (Prod.snd (x.2.2))) = (0 : Int) ∧ (∀ (i : Int), i ∈ Prod.snd (Prod.snd (x.2.2)) → (0 : Int) ≤ i ∧ i < Tp.n x.1) ∧ List.length (Prod.snd (Prod.snd (x.2.2))) < 1099511627776) fun n_6 => .all (fun (r : List UInt8 × Int) => r = stpA (Prod.fst (n_6.2.2)) (atT n_6.1 (n_6.2.1) (Prod.fst (Prod.snd (n_6.2.2))) (Prod.snd (Prod.snd (n_6.2.2))))) fun n_7 => .ex (fun (x : Tp × List (List UInt8) × Int × List UInt8 × List Int) => eqL [AV.ptr 0 0, AV.str h, AV.osl 1 1 0 1] [AV.ptr 0 0, AV.str (Prod.fst (Prod.snd (x.2.2))), AV.osl 1 1 0 (List.length (Prod.snd (Prod.snd (x.2.2))))] ∧ eqH [.box [AV.int .i64 (Tp.n n_6.1), AV.sl (List.length (Tp.ops n_6.1)) 4 (opG (Tp.ops n_6.1)), AV.sl (List.length (n_6.2.1)) 1 (ratG (n_6.2.1)), AV.int .i64 n_7.2], .arr 1 1 (zc 1 [AV.int .i64 k])] [.box [AV.int .i64 (Tp.n x.1), AV.sl (List.length (Tp.ops x.1)) 4 (opG (Tp.ops x.1)), AV.sl (List.length (x.2.1)) 1 (ratG (x.2.1)), AV.int .i64 (Prod.fst (x.2.2))], Blk.arrI .i64 (List.length (Prod.snd (Prod.snd (x.2.2)))) (dgF (Prod.snd (Prod.snd (x.2.2))))] ∧ 2 = 2 ∧ zf x.1 = 0 ∧ (↑(List.length (x.2.1)) : Int) = Tp.n x.1 ∧ allQ (x.2.1) ∧ errR (Prod.fst (Prod.snd (x.2.2))) = (0 : Int) ∧ (∀ (i : Int), i ∈ Prod.snd (Prod.snd (x.2.2)) → (0 : Int) ≤ i ∧ i < Tp.n x.1) ∧ List.length (Prod.snd (Prod.snd (x.2.2))) < 1099511627776) fun n_8 => .all (fun (r : List UInt8 × Int) => r = stpA (Prod.fst (n_8.2.2)) (atT n_8.1 (n_8.2.1) (Prod.fst (Prod.snd (n_8.2.2))) (Prod.snd (Prod.snd (n_8.2.2))))) fun n_9 => .ex (fun (x : Tp × List (List UInt8) × Int × Int × List UInt8 × List UInt8) => eqL [AV.ptr 0 0, AV.fn 24 [] [], AV.str n_3.1, AV.str n_7.1] [AV.ptr 0 0, AV.fn (opN (Prod.fst (Prod.snd (x.2.2)))) [] [], AV.str (Prod.fst (Prod.snd (Prod.snd (x.2.2)))), AV.str (Prod.snd (Prod.snd (Prod.snd (x.2.2))))] ∧ eqH [.box [AV.int .i64 (Tp.n n_8.1), AV.sl (List.length (Tp.ops n_8.1)) 4 (opG (Tp.ops n_8.1)), AV.sl (List.length (n_8.2.1)) 1 (ratG (n_8.2.1)), AV.int .i64 n_9.2]] [.box [AV.int .i64 (Tp.n x.1), AV.sl (List.length (Tp.ops x.1)) 4 (opG (Tp.ops x.1)), AV.sl (List.length (x.2.1)) 1 (ratG (x.2.1)), AV.int .i64 (Prod.fst (x.2.2))]] ∧ 1 = 1 ∧ (Prod.fst (Prod.snd (x.2.2)) = (3 : Int) ∨ Prod.fst (Prod.snd (x.2.2)) = (4 : Int) ∨ Prod.fst (Prod.snd (x.2.2)) = (5 : Int) ∨ Prod.fst (Prod.snd (x.2.2)) = (6 : Int)) ∧ List.length (Prod.fst (Prod.snd (Prod.snd (x.2.2)))) < 2305843009213693952 ∧ List.length (Prod.snd (Prod.snd (Prod.snd (x.2.2)))) < 2305843009213693952) fun n_10 => .all (fun (r : List UInt8 × Int) => r = stp (Prod.fst (n_10.2.2)) (arR (Prod.fst (Prod.snd (n_10.2.2)))) (Prod.fst (Prod.snd (Prod.snd (n_10.2.2)))) (Prod.snd (Prod.snd (Prod.snd (n_10.2.2))))) fun n_11 => .ex (fun (x : Tp × List (List UInt8) × Int × Int × List UInt8 × List UInt8) => eqL [AV.ptr 0 0, AV.fn 24 [] [], AV.str n_11.1, AV.str n_9.1] [AV.ptr 0 0, AV.fn (opN (Prod.fst (Prod.snd (x.2.2)))) [] [], AV.str (Prod.fst (Prod.snd (Prod.snd (x.2.2)))), AV.str (Prod.snd (Prod.snd (Prod.snd (x.2.2))))] ∧ eqH [.box [AV.int .i64 (Tp.n n_10.1), AV.sl (List.length (Tp.ops n_10.1)) 4 (opG (Tp.ops n_10.1)), AV.sl (List.length (n_10.2.1)) 1 (ratG (n_10.2.1)), AV.int .i64 n_11.2]] [.box [AV.int .i64 (Tp.n x.1), AV.sl (List.length (Tp.ops x.1)) 4 (opG (Tp.ops x.1)), AV.sl (List.length (x.2.1)) 1 (ratG (x.2.1)), AV.int .i64 (Prod.fst (x.2.2))]] ∧ 1 = 1 ∧ (Prod.fst (Prod.snd (x.2.2)) = (3 : Int) ∨ Prod.fst (Prod.snd (x.2.2)) = (4 : Int) ∨ Prod.fst (Prod.snd (x.2.2)) = (5 : Int) ∨ Prod.fst (Prod.snd (x.2.2)) = (6 : Int)) ∧ List.length (Prod.fst (Prod.snd (Prod.snd (x.2.2)))) < 2305843009213693952 ∧ List.length (Prod.snd (Prod.snd (Prod.snd (x.2.2)))) < 2305843009213693952) fun n_12 => .all (fun (r : List UInt8 × Int) => r = stp (Prod.fst (n_12.2.2)) (arR (Prod.fst (Prod.snd (n_12.2.2)))) (Prod.fst (Prod.snd (Prod.snd (n_12.2.2)))) (Prod.snd (Prod.snd (Prod.snd (n_12.2.2))))) fun n_13 => .ex (fun (x : Tp × List (List UInt8) × Int × Int × List UInt8 × List UInt8) => eqL [AV.ptr 0 0, AV.fn 23 [] [], AV.str n_13.1, AV.str v] [AV.ptr 0 0, AV.fn (opN (Prod.fst (Prod.snd (x.2.2)))) [] [], AV.str (Prod.fst (Prod.snd (Prod.snd (x.2.2)))), AV.str (Prod.snd (Prod.snd (Prod.snd (x.2.2))))] ∧ eqH [.box [AV.int .i64 (Tp.n n_12.1), AV.sl (List.length (Tp.ops n_12.1)) 4 (opG (Tp.ops n_12.1)), AV.sl (List.length (n_12.2.1)) 1 (ratG (n_12.2.1)), AV.int .i64 n_13.2]] [.box [AV.int .i64 (Tp.n x.1), AV.sl (List.length (Tp.ops x.1)) 4 (opG (Tp.ops x.1)), AV.sl (List.length (x.2.1)) 1 (ratG (x.2.1)), AV.int .i64 (Prod.fst (x.2.2))]] ∧ 1 = 1 ∧ (Prod.fst (Prod.snd (x.2.2)) = (3 : Int) ∨ Prod.fst (Prod.snd (x.2.2)) = (4 : Int) ∨ Prod.fst (Prod.snd (x.2.2)) = (5 : Int) ∨ Prod.fst (Prod.snd (x.2.2)) = (6 : Int)) ∧ List.length (Prod.fst (Prod.snd (Prod.snd (x.2.2)))) < 2305843009213693952 ∧ List.length (Prod.snd (Prod.snd (Prod.snd (x.2.2)))) < 2305843009213693952) fun n_14 => .all (fun (r : List UInt8 × Int) => r = stp (Prod.fst (n_14.2.2)) (arR (Prod.fst (Prod.snd (n_14.2.2)))) (Prod.fst (Prod.snd (Prod.snd (n_14.2.2)))) (Prod.snd (Prod.snd (Prod.snd (n_14.2.2))))) fun n_15 => .ex (fun (x : Tp × List (List UInt8) × Int × Int × List UInt8 × List UInt8) => eqL [AV.ptr 0 0, AV.fn 27 [] [], AV.str h, AV.str h] [AV.ptr 0 0, AV.fn (opN (Prod.fst (Prod.snd (x.2.2)))) [] [], AV.str (Prod.fst (Prod.snd (Prod.snd (x.2.2)))), AV.str (Prod.snd (Prod.snd (Prod.snd (x.2.2))))] ∧ eqH [.box [AV.int .i64 (Tp.n n_14.1), AV.sl (List.length (Tp.ops n_14.1)) 4 (opG (Tp.ops n_14.1)), AV.sl (List.length (n_14.2.1)) 1 (ratG (n_14.2.1)), AV.int .i64 n_15.2]] [.box [AV.int .i64 (Tp.n x.1), AV.sl (List.length (Tp.ops x.1)) 4 (opG (Tp.ops x.1)), AV.sl (List.length (x.2.1)) 1 (ratG (x.2.1)), AV.int .i64 (Prod.fst (x.2.2))]] ∧ 1 = 1 ∧ (Prod.fst (Prod.snd (x.2.2)) = (3 : Int) ∨ Prod.fst (Prod.snd (x.2.2)) = (4 : Int) ∨ Prod.fst (Prod.snd (x.2.2)) = (5 : Int) ∨ Prod.fst (Prod.snd (x.2.2)) = (6 : Int)) ∧ List.length (Prod.fst (Prod.snd (Prod.snd (x.2.2)))) < 2305843009213693952 ∧ List.length (Prod.snd (Prod.snd (Prod.snd (x.2.2)))) < 2305843009213693952) fun n_16 => .all (fun (r : List UInt8 × Int) => r = stp (Prod.fst (n_16.2.2)) (arR (Prod.fst (Prod.snd (n_16.2.2)))) (Prod.fst (Prod.snd (Prod.snd (n_16.2.2)))) (Prod.snd (Prod.snd (Prod.snd (n_16.2.2))))) fun n_17 => .leaf (.ret [.str n_15.1, .str n_17.1] [.box [.int .i64 (Tp.n n_16.1), .sl (List.length (Tp.ops n_16.1)) 4 (opG (Tp.ops n_16.1)), .sl (List.length (n_16.2.1)) 1 (ratG (n_16.2.1)), .int .i64 n_17.2], .box [.str h], .box [.int .i64 i], .box [.int .i64 k], Blk.arrI .i64 (List.length (Prod.snd (Prod.snd (n.2.2)))) (dgF (Prod.snd (Prod.snd (n.2.2)))), Blk.arrI .i64 (List.length (Prod.snd (Prod.snd (n_6.2.2)))) (dgF (Prod.snd (Prod.snd (n_6.2.2)))), Blk.arrI .i64 (List.length (Prod.snd (Prod.snd (n_8.2.2)))) (dgF (Prod.snd (Prod.snd (n_8.2.2))))])) (.ex (fun (x : Tp × List (List UInt8) × Int × List UInt8 × List Int) => eqL [AV.ptr 0 0, AV.str h, AV.osl 1 1 0 1] [AV.ptr 0 0, AV.str (Prod.fst (Prod.snd (x.2.2))), AV.osl 1 1 0 (List.length (Prod.snd (Prod.snd (x.2.2))))] ∧ eqH [.box [AV.int .i64 (Tp.n n.1), AV.sl (List.length (Tp.ops n.1)) 4 (opG (Tp.ops n.1)), AV.sl (List.length (n.2.1)) 1 (ratG (n.2.1)), AV.int .i64 n_3.2], .arr 1 1 (zc 1 [AV.int .i64 i])] [.box [AV.int .i64 (Tp.n x.1), AV.sl (List.length (Tp.ops x.1)) 4 (opG (Tp.ops x.1)), AV.sl (List.length (x.2.1)) 1 (ratG (x.2.1)), AV.int .i64 (Prod.fst (x.2.2))], Blk.arrI .i64 (List.length (Prod.snd (Prod.snd (x.2.2)))) (dgF (Prod.snd (Prod.snd (x.2.2))))] ∧ 2 = 2 ∧ zf x.1 = 0 ∧ (↑(List.length (x.2.1)) : Int) = Tp.n x.1 ∧ allQ (x.2.1) ∧ errR (Prod.fst (Prod.snd (x.2.2))) = (0 : Int) ∧ (∀ (i : Int), i ∈ Prod.snd (Prod.snd (x.2.2)) → (0 : Int) ≤ i ∧ i < Tp.n x.1) ∧ List.length (Prod.snd (Prod.snd (x.2.2))) < 1099511627776) fun n_6 => .all (fun (r : List UInt8 × Int) => r = stpA (Prod.fst (n_6.2.2)) (atT n_6.1 (n_6.2.1) (Prod.fst (Prod.snd (n_6.2.2))) (Prod.snd (Prod.snd (n_6.2.2))))) fun n_7 => .ex (fun (x : Tp × List (List UInt8) × Int × List UInt8 × List Int) => eqL [AV.ptr 0 0, AV.str h, AV.osl 1 1 0 1] [AV.ptr 0 0, AV.str (Prod.fst (Prod.snd (x.2.2))), AV.osl 1 1 0 (List.length (Prod.snd (Prod.snd (x.2.2))))] ∧ eqH [.box [AV.int .i64 (Tp.n n_6.1), AV.sl (List.length (Tp.ops n_6.1)) 4 (opG (Tp.ops n_6.1)), AV.sl (List.length (n_6.2.1)) 1 (ratG (n_6.2.1)), AV.int .i64 n_7.2], .arr 1 1 (zc 1 [AV.int .i64 k])] [.box [AV.int .i64 (Tp.n x.1), AV.sl (List.length (Tp.ops x.1)) 4 (opG (Tp.ops x.1)), AV.sl (List.length (x.2.1)) 1 (ratG (x.2.1)), AV.int .i64 (Prod.fst (x.2.2))], Blk.arrI .i64 (List.length (Prod.snd (Prod.snd (x.2.2)))) (dgF (Prod.snd (Prod.snd (x.2.2))))] ∧ 2 = 2 ∧ zf x.1 = 0 ∧ (↑(List.length (x.2.1)) : Int) = Tp.n x.1 ∧ allQ (x.2.1) ∧ errR (Prod.fst (Prod.snd (x.2.2))) = (0 : Int) ∧ (∀ (i : Int), i ∈ Prod.snd (Prod.snd (x.2.2)) → (0 : Int) ≤ i ∧ i < Tp.n x.1) ∧ List.length (Prod.snd (Prod.snd (x.2.2))) < 1099511627776) fun n_8 => .all (fun (r : List UInt8 × Int) => r = stpA (Prod.fst (n_8.2.2)) (atT n_8.1 (n_8.2.1) (Prod.fst (Prod.snd (n_8.2.2))) (Prod.snd (Prod.snd (n_8.2.2))))) fun n_9 => .ex (fun (x : Tp × List (List UInt8) × Int × Int × List UInt8 × List UInt8) => eqL [AV.ptr 0 0, AV.fn 24 [] [], AV.str n_3.1, AV.str n_7.1] [AV.ptr 0 0, AV.fn (opN (Prod.fst (Prod.snd (x.2.2)))) [] [], AV.str (Prod.fst (Prod.snd (Prod.snd (x.2.2)))), AV.str (Prod.snd (Prod.snd (Prod.snd (x.2.2))))] ∧ eqH [.box [AV.int .i64 (Tp.n n_8.1), AV.sl (List.length (Tp.ops n_8.1)) 4 (opG (Tp.ops n_8.1)), AV.sl (List.length (n_8.2.1)) 1 (ratG (n_8.2.1)), AV.int .i64 n_9.2]] [.box [AV.int .i64 (Tp.n x.1), AV.sl (List.length (Tp.ops x.1)) 4 (opG (Tp.ops x.1)), AV.sl (List.length (x.2.1)) 1 (ratG (x.2.1)), AV.int .i64 (Prod.fst (x.2.2))]] ∧ 1 = 1 ∧ (Prod.fst (Prod.snd (x.2.2)) = (3 : Int) ∨ Prod.fst (Prod.snd (x.2.2)) = (4 : Int) ∨ Prod.fst (Prod.snd (x.2.2)) = (5 : Int) ∨ Prod.fst (Prod.snd (x.2.2)) = (6 : Int)) ∧ List.length (Prod.fst (Prod.snd (Prod.snd (x.2.2)))) < 2305843009213693952 ∧ List.length (Prod.snd (Prod.snd (Prod.snd (x.2.2)))) < 2305843009213693952) fun n_10 => .all (fun (r : List UInt8 × Int) => r = stp (Prod.fst (n_10.2.2)) (arR (Prod.fst (Prod.snd (n_10.2.2)))) (Prod.fst (Prod.snd (Prod.snd (n_10.2.2)))) (Prod.snd (Prod.snd (Prod.snd (n_10.2.2))))) fun n_11 => .ex (fun (x : Tp × List (List UInt8) × Int × Int × List UInt8 × List UInt8) => eqL [AV.ptr 0 0, AV.fn 24 [] [], AV.str n_11.1, AV.str n_9.1] [AV.ptr 0 0, AV.fn (opN (Prod.fst (Prod.snd (x.2.2)))) [] [], AV.str (Prod.fst (Prod.snd (Prod.snd (x.2.2)))), AV.str (Prod.snd (Prod.snd (Prod.snd (x.2.2))))] ∧ eqH [.box [AV.int .i64 (Tp.n n_10.1), AV.sl (List.length (Tp.ops n_10.1)) 4 (opG (Tp.ops n_10.1)), AV.sl (List.length (n_10.2.1)) 1 (ratG (n_10.2.1)), AV.int .i64 n_11.2]] [.box [AV.int .i64 (Tp.n x.1), AV.sl (List.length (Tp.ops x.1)) 4 (opG (Tp.ops x.1)), AV.sl (List.length (x.2.1)) 1 (ratG (x.2.1)), AV.int .i64 (Prod.fst (x.2.2))]] ∧ 1 = 1 ∧ (Prod.fst (Prod.snd (x.2.2)) = (3 : Int) ∨ Prod.fst (Prod.snd (x.2.2)) = (4 : Int) ∨ Prod.fst (Prod.snd (x.2.2)) = (5 : Int) ∨ Prod.fst (Prod.snd (x.2.2)) = (6 : Int)) ∧ List.length (Prod.fst (Prod.snd (Prod.snd (x.2.2)))) < 2305843009213693952 ∧ List.length (Prod.snd (Prod.snd (Prod.snd (x.2.2)))) < 2305843009213693952) fun n_12 => .all (fun (r : List UInt8 × Int) => r = stp (Prod.fst (n_12.2.2)) (arR (Prod.fst (Prod.snd (n_12.2.2)))) (Prod.fst (Prod.snd (Prod.snd (n_12.2.2)))) (Prod.snd (Prod.snd (Prod.snd (n_12.2.2))))) fun n_13 => .ex (fun (x : Tp × List (List UInt8) × Int × Int × List UInt8 × List UInt8) => eqL [AV.ptr 0 0, AV.fn 23 [] [], AV.str n_13.1, AV.str v] [AV.ptr 0 0, AV.fn (opN (Prod.fst (Prod.snd (x.2.2)))) [] [], AV.str (Prod.fst (Prod.snd (Prod.snd (x.2.2)))), AV.str (Prod.snd (Prod.snd (Prod.snd (x.2.2))))] ∧ eqH [.box [AV.int .i64 (Tp.n n_12.1), AV.sl (List.length (Tp.ops n_12.1)) 4 (opG (Tp.ops n_12.1)), AV.sl (List.length (n_12.2.1)) 1 (ratG (n_12.2.1)), AV.int .i64 n_13.2]] [.box [AV.int .i64 (Tp.n x.1), AV.sl (List.length (Tp.ops x.1)) 4 (opG (Tp.ops x.1)), AV.sl (List.length (x.2.1)) 1 (ratG (x.2.1)), AV.int .i64 (Prod.fst (x.2.2))]] ∧ 1 = 1 ∧ (Prod.fst (Prod.snd (x.2.2)) = (3 : Int) ∨ Prod.fst (Prod.snd (x.2.2)) = (4 : Int) ∨ Prod.fst (Prod.snd (x.2.2)) = (5 : Int) ∨ Prod.fst (Prod.snd (x.2.2)) = (6 : Int)) ∧ List.length (Prod.fst (Prod.snd (Prod.snd (x.2.2)))) < 2305843009213693952 ∧ List.length (Prod.snd (Prod.snd (Prod.snd (x.2.2)))) < 2305843009213693952) fun n_14 => .all (fun (r : List UInt8 × Int) => r = stp (Prod.fst (n_14.2.2)) (arR (Prod.fst (Prod.snd (n_14.2.2)))) (Prod.fst (Prod.snd (Prod.snd (n_14.2.2)))) (Prod.snd (Prod.snd (Prod.snd (n_14.2.2))))) fun n_15 => .ex (fun (x : Tp × List (List UInt8) × Int × Int × List UInt8 × List UInt8) => eqL [AV.ptr 0 0, AV.fn 27 [] [], AV.str h, AV.str h] [AV.ptr 0 0, AV.fn (opN (Prod.fst (Prod.snd (x.2.2)))) [] [], AV.str (Prod.fst (Prod.snd (Prod.snd (x.2.2)))), AV.str (Prod.snd (Prod.snd (Prod.snd (x.2.2))))] ∧ eqH [.box [AV.int .i64 (Tp.n n_14.1), AV.sl (List.length (Tp.ops n_14.1)) 4 (opG (Tp.ops n_14.1)), AV.sl (List.length (n_14.2.1)) 1 (ratG (n_14.2.1)), AV.int .i64 n_15.2]] [.box [AV.int .i64 (Tp.n x.1), AV.sl (List.length (Tp.ops x.1)) 4 (opG (Tp.ops x.1)), AV.sl (List.length (x.2.1)) 1 (ratG (x.2.1)), AV.int .i64 (Prod.fst (x.2.2))]] ∧ 1 = 1 ∧ (Prod.fst (Prod.snd (x.2.2)) = (3 : Int) ∨ Prod.fst (Prod.snd (x.2.2)) = (4 : Int) ∨ Prod.fst (Prod.snd (x.2.2)) = (5 : Int) ∨ Prod.fst (Prod.snd (x.2.2)) = (6 : Int)) ∧ List.length (Prod.fst (Prod.snd (Prod.snd (x.2.2)))) < 2305843009213693952 ∧ List.length (Prod.snd (Prod.snd (Prod.snd (x.2.2)))) < 2305843009213693952) fun n_16 => .all (fun (r : List UInt8 × Int) => r = stp (Prod.fst (n_16.2.2)) (arR (Prod.fst (Prod.snd (n_16.2.2)))) (Prod.fst (Prod.snd (Prod.snd (n_16.2.2)))) (Prod.snd (Prod.snd (Prod.snd (n_16.2.2))))) fun n_17 => .leaf (.ret [.str n_15.1, .str n_17.1] [.box [.int .i64 (Tp.n n_16.1), .sl (List.length (Tp.ops n_16.1)) 4 (opG (Tp.ops n_16.1)), .sl (List.length (n_16.2.1)) 1 (ratG (n_16.2.1)), .int .i64 n_17.2], .box [.str h], .box [.int .i64 i], .box [.int .i64 k], Blk.arrI .i64 (List.length (Prod.snd (Prod.snd (n.2.2)))) (dgF (Prod.snd (Prod.snd (n.2.2)))), Blk.arrI .i64 (List.length (Prod.snd (Prod.snd (n_6.2.2)))) (dgF (Prod.snd (Prod.snd (n_6.2.2)))), Blk.arrI .i64 (List.length (Prod.snd (Prod.snd (n_8.2.2)))) (dgF (Prod.snd (Prod.snd (n_8.2.2))))]))) (.ex (fun (x : Tp × List (List UInt8) × Int × List UInt8 × List Int) => eqL [AV.ptr 0 0, AV.str h, AV.osl 1 1 0 1] [AV.ptr 0 0, AV.str (Prod.fst (Prod.snd (x.2.2))), AV.osl 1 1 0 (List.length (Prod.snd (Prod.snd (x.2.2))))] ∧ eqH [.box [AV.int .i64 (Tp.n n.1), AV.sl (List.length (Tp.ops n.1)) 4 (opG (Tp.ops n.1)), AV.sl (List.length (n.2.1)) 1 (ratG (n.2.1)), AV.int .i64 n_3.2], .arr 1 1 (zc 1 [AV.int .i64 i])] [.box [AV.int .i64 (Tp.n x.1), AV.sl (List.length (Tp.ops x.1)) 4 (opG (Tp.ops x.1)), AV.sl (List.length (x.2.1)) 1 (ratG (x.2.1)), AV.int .i64 (Prod.fst (x.2.2))], Blk.arrI .i64 (List.length (Prod.snd (Prod.snd (x.2.2)))) (dgF (Prod.snd (Prod.snd (x.2.2))))] ∧ 2 = 2 ∧ zf x.1 = 0 ∧ (↑(List.length (x.2.1)) : Int) = Tp.n x.1 ∧ allQ (x.2.1) ∧ errR (Prod.fst (Prod.snd (x.2.2))) = (0 : Int) ∧ (∀ (i : Int), i ∈ Prod.snd (Prod.snd (x.2.2)) → (0 : Int) ≤ i ∧ i < Tp.n x.1) ∧ List.length (Prod.snd (Prod.snd (x.2.2))) < 1099511627776) fun n_5 => .all (fun (r : List UInt8 × Int) => r = stpA (Prod.fst (n_5.2.2)) (atT n_5.1 (n_5.2.1) (Prod.fst (Prod.snd (n_5.2.2))) (Prod.snd (Prod.snd (n_5.2.2))))) fun n_6 => .ex (fun (x : Tp × List (List UInt8) × Int × List UInt8 × List Int) => eqL [AV.ptr 0 0, AV.str h, AV.osl 1 1 0 1] [AV.ptr 0 0, AV.str (Prod.fst (Prod.snd (x.2.2))), AV.osl 1 1 0 (List.length (Prod.snd (Prod.snd (x.2.2))))] ∧ eqH [.box [AV.int .i64 (Tp.n n_5.1), AV.sl (List.length (Tp.ops n_5.1)) 4 (opG (Tp.ops n_5.1)), AV.sl (List.length (n_5.2.1)) 1 (ratG (n_5.2.1)), AV.int .i64 n_6.2], .arr 1 1 (zc 1 [AV.int .i64 k])] [.box [AV.int .i64 (Tp.n x.1), AV.sl (List.length (Tp.ops x.1)) 4 (opG (Tp.ops x.1)), AV.sl (List.length (x.2.1)) 1 (ratG (x.2.1)), AV.int .i64 (Prod.fst (x.2.2))], Blk.arrI .i64 (List.length (Prod.snd (Prod.snd (x.2.2)))) (dgF (Prod.snd (Prod.snd (x.2.2))))] ∧ 2 = 2 ∧ zf x.1 = 0 ∧ (↑(List.length (x.2.1)) : Int) = Tp.n x.1 ∧ allQ (x.2.1) ∧ errR (Prod.fst (Prod.snd (x.2.2))) = (0 : Int) ∧ (∀ (i : Int), i ∈ Prod.snd (Prod.snd (x.2.2)) → (0 : Int) ≤ i ∧ i < Tp.n x.1) ∧ List.length (Prod.snd (Prod.snd (x.2.2))) < 1099511627776) fun n_7 => .all (fun (r : List UInt8 × Int) => r = stpA (Prod.fst (n_7.2.2)) (atT n_7.1 (n_7.2.1) (Prod.fst (Prod.snd (n_7.2.2))) (Prod.snd (Prod.snd (n_7.2.2))))) fun n_8 => .ex (fun (x : Tp × List (List UInt8) × Int × Int × List UInt8 × List UInt8) => eqL [AV.ptr 0 0, AV.fn 24 [] [], AV.str n_3.1, AV.str n_6.1] [AV.ptr 0 0, AV.fn (opN (Prod.fst (Prod.snd (x.2.2)))) [] [], AV.str (Prod.fst (Prod.snd (Prod.snd (x.2.2)))), AV.str (Prod.snd (Prod.snd (Prod.snd (x.2.2))))] ∧ eqH [.box [AV.int .i64 (Tp.n n_7.1), AV.sl (List.length (Tp.ops n_7.1)) 4 (opG (Tp.ops n_7.1)), AV.sl (List.length (n_7.2.1)) 1 (ratG (n_7.2.1)), AV.int .i64 n_8.2]] [.box [AV.int .i64 (Tp.n x.1), AV.sl (List.length (Tp.ops x.1)) 4 (opG (Tp.ops x.1)), AV.sl (List.length (x.2.1)) 1 (ratG (x.2.1)), AV.int .i64 (Prod.fst (x.2.2))]] ∧ 1 = 1 ∧ (Prod.fst (Prod.snd (x.2.2)) = (3 : Int) ∨ Prod.fst (Prod.snd (x.2.2)) = (4 : Int) ∨ Prod.fst (Prod.snd (x.2.2)) = (5 : Int) ∨ Prod.fst (Prod.snd (x.2.2)) = (6 : Int)) ∧ List.length (Prod.fst (Prod.snd (Prod.snd (x.2.2)))) < 2305843009213693952 ∧ List.length (Prod.snd (Prod.snd (Prod.snd (x.2.2)))) < 2305843009213693952) fun n_9 => .all (fun (r : List UInt8 × Int) => r = stp (Prod.fst (n_9.2.2)) (arR (Prod.fst (Prod.snd (n_9.2.2)))) (Prod.fst (Prod.snd (Prod.snd (n_9.2.2)))) (Prod.snd (Prod.snd (Prod.snd (n_9.2.2))))) fun n_10 => .ex (fun (x : Tp × List (List UInt8) × Int × Int × List UInt8 × List UInt8) => eqL [AV.ptr 0 0, AV.fn 24 [] [], AV.str n_10.1, AV.str n_8.1] [AV.ptr 0 0, AV.fn (opN (Prod.fst (Prod.snd (x.2.2)))) [] [], AV.str (Prod.fst (Prod.snd (Prod.snd (x.2.2)))), AV.str (Prod.snd (Prod.snd (Prod.snd (x.2.2))))] ∧ eqH [.box [AV.int .i64 (Tp.n n_9.1), AV.sl (List.length (Tp.ops n_9.1)) 4 (opG (Tp.ops n_9.1)), AV.sl (List.length (n_9.2.1)) 1 (ratG (n_9.2.1)), AV.int .i64 n_10.2]] [.box [AV.int .i64 (Tp.n x.1), AV.sl (List.length (Tp.ops x.1)) 4 (opG (Tp.ops x.1)), AV.sl (List.length (x.2.1)) 1 (ratG (x.2.1)), AV.int .i64 (Prod.fst (x.2.2))]] ∧ 1 = 1 ∧ (Prod.fst (Prod.snd (x.2.2)) = (3 : Int) ∨ Prod.fst (Prod.snd (x.2.2)) = (4 : Int) ∨ Prod.fst (Prod.snd (x.2.2)) = (5 : Int) ∨ Prod.fst (Prod.snd (x.2.2)) = (6 : Int)) ∧ List.length (Prod.fst (Prod.snd (Prod.snd (x.2.2)))) < 2305843009213693952 ∧ List.length (Prod.snd (Prod.snd (Prod.snd (x.2.2)))) < 2305843009213693952) fun n_11 => .all (fun (r : List UInt8 × Int) => r = stp (Prod.fst (n_11.2.2)) (arR (Prod.fst (Prod.snd (n_11.2.2)))) (Prod.fst (Prod.snd (Prod.snd (n_11.2.2)))) (Prod.snd (Prod.snd (Prod.snd (n_11.2.2))))) fun n_12 => .ex (fun (x : Tp × List (List UInt8) × Int × Int × List UInt8 × List UInt8) => eqL [AV.ptr 0 0, AV.fn 23 [] [], AV.str n_12.1, AV.str v] [AV.ptr 0 0, AV.fn (opN (Prod.fst (Prod.snd (x.2.2)))) [] [], AV.str (Prod.fst (Prod.snd (Prod.snd (x.2.2)))), AV.str (Prod.snd (Prod.snd (Prod.snd (x.2.2))))] ∧ eqH [.box [AV.int .i64 (Tp.n n_11.1), AV.sl (List.length (Tp.ops n_11.1)) 4 (opG (Tp.ops n_11.1)), AV.sl (List.length (n_11.2.1)) 1 (ratG (n_11.2.1)), AV.int .i64 n_12.2]] [.box [AV.int .i64 (Tp.n x.1), AV.sl (List.length (Tp.ops x.1)) 4 (opG (Tp.ops x.1)), AV.sl (List.length (x.2.1)) 1 (ratG (x.2.1)), AV.int .i64 (Prod.fst (x.2.2))]] ∧ 1 = 1 ∧ (Prod.fst (Prod.snd (x.2.2)) = (3 : Int) ∨ Prod.fst (Prod.snd (x.2.2)) = (4 : Int) ∨ Prod.fst (Prod.snd (x.2.2)) = (5 : Int) ∨ Prod.fst (Prod.snd (x.2.2)) = (6 : Int)) ∧ List.length (Prod.fst (Prod.snd (Prod.snd (x.2.2)))) < 2305843009213693952 ∧ List.length (Prod.snd (Prod.snd (Prod.snd (x.2.2)))) < 2305843009213693952) fun n_13 => .all (fun (r : List UInt8 × Int) => r = stp (Prod.fst (n_13.2.2)) (arR (Prod.fst (Prod.snd (n_13.2.2)))) (Prod.fst (Prod.snd (Prod.snd (n_13.2.2)))) (Prod.snd (Prod.snd (Prod.snd (n_13.2.2))))) fun n_14 => .ex (fun (x : Tp × List (List UInt8) × Int × Int × List UInt8 × List UInt8) => eqL [AV.ptr 0 0, AV.fn 27 [] [], AV.str h, AV.str h] [AV.ptr 0 0, AV.fn (opN (Prod.fst (Prod.snd (x.2.2)))) [] [], AV.str (Prod.fst (Prod.snd (Prod.snd (x.2.2)))), AV.str (Prod.snd (Prod.snd (Prod.snd (x.2.2))))] ∧ eqH [.box [AV.int .i64 (Tp.n n_13.1), AV.sl (List.length (Tp.ops n_13.1)) 4 (opG (Tp.ops n_13.1)), AV.sl (List.length (n_13.2.1)) 1 (ratG (n_13.2.1)), AV.int .i64 n_14.2]] [.box [AV.int .i64 (Tp.n x.1), AV.sl (List.length (Tp.ops x.1)) 4 (opG (Tp.ops x.1)), AV.sl (List.length (x.2.1)) 1 (ratG (x.2.1)), AV.int .i64 (Prod.fst (x.2.2))]] ∧ 1 = 1 ∧ (Prod.fst (Prod.snd (x.2.2)) = (3 : Int) ∨ Prod.fst (Prod.snd (x.2.2)) = (4 : Int) ∨ Prod.fst (Prod.snd (x.2.2)) = (5 : Int) ∨ Prod.fst (Prod.snd (x.2.2)) = (6 : Int)) ∧ List.length (Prod.fst (Prod.snd (Prod.snd (x.2.2)))) < 2305843009213693952 ∧ List.length (Prod.snd (Prod.snd (Prod.snd (x.2.2)))) < 2305843009213693952) fun n_15 => .all (fun (r : List UInt8 × Int) => r = stp (Prod.fst (n_15.2.2)) (arR (Prod.fst (Prod.snd (n_15.2.2)))) (Prod.fst (Prod.snd (Prod.snd (n_15.2.2)))) (Prod.snd (Prod.snd (Prod.snd (n_15.2.2))))) fun n_16 => .leaf (.ret [.str n_14.1, .str n_16.1] [.box [.int .i64 (Tp.n n_15.1), .sl (List.length (Tp.ops n_15.1)) 4 (opG (Tp.ops n_15.1)), .sl (List.length (n_15.2.1)) 1 (ratG (n_15.2.1)), .int .i64 n_16.2], .box [.str h], .box [.int .i64 i], .box [.int .i64 k], Blk.arrI .i64 (List.length (Prod.snd (Prod.snd (n.2.2)))) (dgF (Prod.snd (Prod.snd (n.2.2)))), Blk.arrI .i64 (List.length (Prod.snd (Prod.snd (n_7.2.2)))) (dgF (Prod.snd (Prod.snd (n_7.2.2)))), Blk.arrI .i64 (List.length (Prod.snd (Prod.snd (n_5.2.2)))) (dgF (Prod.snd (Prod.snd (n_5.2.2))))]))) (.all (fun (x : Bool) => True) fun n_3 => .ite n_3 (.all (fun (x : Bool) => True) fun n_4 => .ite n_4 (.ex (fun (x : Tp × List (List UInt8) × Int × List UInt8 × List Int) => eqL [AV.ptr 0 0, AV.str h, AV.osl 1 1 0 2] [AV.ptr 0 0, AV.str (Prod.fst (Prod.snd (x.2.2))), AV.osl 1 1 0 (List.length (Prod.snd (Prod.snd (x.2.2))))] ∧ eqH [.box [AV.int .i64 n, AV.sl ops.length 4 (opG ops), AV.sl inp.length 1 (ratG inp), AV.int .i64 0], .arr 2 1 (zc 1 [AV.int .i64 i, AV.int .i64 k])] [.box [AV.int .i64 (Tp.n x.1), AV.sl (List.length (Tp.ops x.1)) 4 (opG (Tp.ops x.1)), AV.sl (List.length (x.2.1)) 1 (ratG (x.2.1)), AV.int .i64 (Prod.fst (x.2.2))], Blk.arrI .i64 (List.length (Prod.snd (Prod.snd (x.2.2)))) (dgF (Prod.snd (Prod.snd (x.2.2))))] ∧ 2 = 2 ∧ zf x.1 = 0 ∧ (↑(List.length (x.2.1)) : Int) = Tp.n x.1 ∧ allQ (x.2.1) ∧ errR (Prod.fst (Prod.snd (x.2.2))) = (0 : Int) ∧ (∀ (i : Int), i ∈ Prod.snd (Prod.snd (x.2.2)) → (0 : Int) ≤ i ∧ i < Tp.n x.1) ∧ List.length (Prod.snd (Prod.snd (x.2.2))) < 1099511627776) fun n => .all (fun (r : List UInt8 × Int) => r = stpA (Prod.fst (n.2.2)) (atT n.1 (n.2.1) (Prod.fst (Prod.snd (n.2.2))) (Prod.snd (Prod.snd (n.2.2))))) fun n_5 => .all (fun (x : Bool) => True) fun n_6 => .ite n_6 (.ex (fun (x : Tp × List (List UInt8) × Int × List UInt8 × List Int) => eqL [AV.ptr 0 0, AV.str h, AV.osl 1 1 0 1] [AV.ptr 0 0, AV.str (Prod.fst (Prod.snd (x.2.2))), AV.osl 1 1 0 (List.length (Prod.snd (Prod.snd (x.2.2))))] ∧ eqH [.box [AV.int .i64 (Tp.n n.1), AV.sl (List.length (Tp.ops n.1)) 4 (opG (Tp.ops n.1)), AV.sl (List.length (n.2.1)) 1 (ratG (n.2.1)), AV.int .i64 n_5.2], .arr 1 1 (zc 1 [AV.int .i64 i])] [.box [AV.int .i64 (Tp.n x.1), AV.sl (List.length (Tp.ops x.1)) 4 (opG (Tp.ops x.1)), AV.sl (List.length (x.2.1)) 1 (ratG (x.2.1)), AV.int .i64 (Prod.fst (x.2.2))], Blk.arrI .i64 (List.length (Prod.snd (Prod.snd (x.2.2)))) (dgF (Prod.snd (Prod.snd (x.2.2))))] ∧ 2 = 2 ∧ zf x.1 = 0 ∧ (↑(List.length (x.2.1)) : Int) = Tp.n x.1 ∧ allQ (x.2.1) ∧ errR (Prod.fst (Prod.snd (x.2.2))) = (0 : Int) ∧ (∀ (i : Int), i ∈ Prod.snd (Prod.snd (x.2.2)) → (0 : Int) ≤ i ∧ i < Tp.n x.1) ∧ List.length (Prod.snd (Prod.snd (x.2.2))) < 1099511627776) fun n_7 => .all (fun (r : List UInt8 × Int) => r = stpA (Prod.fst (n_7.2.2)) (atT n_7.1 (n_7.2.1) (Prod.fst (Prod.snd (n_7.2.2))) (Prod.snd (Prod.snd (n_7.2.2))))) fun n_8 => .ex (fun (x : Tp × List (List UInt8) × Int × List UInt8 × List Int) => eqL [AV.ptr 0 0, AV.str h, AV.osl 1 1 0 1] [AV.ptr 0 0, AV.str (Prod.fst (Prod.snd (x.2.2))), AV.osl 1 1 0 (List.length (Prod.snd (Prod.snd (x.2.2))))] ∧ eqH [.box [AV.int .i64 (Tp.n n_7.1), AV.sl (List.length (Tp.ops n_7.1)) 4 (opG (Tp.ops n_7.1)), AV.sl (List.length (n_7.2.1)) 1 (ratG (n_7.2.1)), AV.int .i64 n_8.2], .arr 1 1 (zc 1 [AV.int .i64 k])] [.box [AV.int .i64 (Tp.n x.1), AV.sl (List.length (Tp.ops x.1)) 4 (opG (Tp.ops x.1)), AV.sl (List.length (x.2.1)) 1 (ratG (x.2.1)), AV.int .i64 (Prod.fst (x.2.2))], Blk.arrI .i64 (List.length (Prod.snd (Prod.snd (x.2.2)))) (dgF (Prod.snd (Prod.snd (x.2.2))))] ∧ 2 = 2 ∧ zf x.1 = 0 ∧ (↑(List.length (x.2.1)) : Int) = Tp.n x.1 ∧ allQ (x.2.1) ∧ errR (Prod.fst (Prod.snd (x.2.2))) = (0 : Int) ∧ (∀ (i : Int), i ∈ Prod.snd (Prod.snd (x.2.2)) → (0 : Int) ≤ i ∧ i < Tp.n x.1) ∧ List.length (Prod.snd (Prod.snd (x.2.2))) < 1099511627776) fun n_9 => .all (fun (r : List UInt8 × Int) => r = stpA (Prod.fst (n_9.2.2)) (atT n_9.1 (n_9.2.1) (Prod.fst (Prod.snd (n_9.2.2))) (Prod.snd (Prod.snd (n_9.2.2))))) fun n_10 => .ex (fun (x : Tp × List (List UInt8) × Int × Int × List UInt8 × List UInt8) => eqL [AV.ptr 0 0, AV.fn 24 [] [], AV.str n_5.1, AV.str n_8.1] [AV.ptr 0 0, AV.fn (opN (Prod.fst (Prod.snd (x.2.2)))) [] [], AV.str (Prod.fst (Prod.snd (Prod.snd (x.2.2)))), AV.str (Prod.snd (Prod.snd (Prod.snd (x.2.2))))] ∧ eqH [.box [AV.int .i64 (Tp.n n_9.1), AV.sl (List.length (Tp.ops n_9.1)) 4 (opG (Tp.ops n_9.1)), AV.sl (List.length (n_9.2.1)) 1 (ratG (n_9.2.1)), AV.int .i64 n_10.2]] [.box [AV.int .i64 (Tp.n x.1), AV.sl (List.length (Tp.ops x.1)) 4 (opG (Tp.ops x.1)), AV.sl (List.length (x.2.1)) 1 (ratG (x.2.1)), AV.int .i64 (Prod.fst (x.2.2))]] ∧ 1 = 1 ∧ (Prod.fst (Prod.snd (x.2.2)) = (3 : Int) ∨ Prod.fst (Prod.snd (x.2.2)) = (4 : Int) ∨ Prod.fst (Prod.snd (x.2.2)) = (5 : Int) ∨ Prod.fst (Prod.snd (x.2.2)) = (6 : Int)) ∧ List.length (Prod.fst (Prod.snd (Prod.snd (x.2.2)))) < 2305843009213693952 ∧ List.length (Prod.snd (Prod.snd (Prod.snd (x.2.2)))) < 2305843009213693952) fun n_11 => .all (fun (r : List UInt8 × Int) => r = stp (Prod.fst (n_11.2.2)) (arR (Prod.fst (Prod.snd (n_11.2.2)))) (Prod.fst (Prod.snd (Prod.snd (n_11.2.2)))) (Prod.snd (Prod.snd (Prod.snd (n_11.2.2))))) fun n_12 => .ex (fun (x : Tp × List (List UInt8) × Int × Int × List UInt8 × List UInt8) => eqL [AV.ptr 0 0, AV.fn 24 [] [], AV.str n_12.1, AV.str n_10.1] [AV.ptr 0 0, AV.fn (opN (Prod.fst (Prod.snd (x.2.2)))) [] [], AV.str (Prod.fst (Prod.snd (Prod.snd (x.2.2)))), AV.str (Prod.snd (Prod.snd (Prod.snd (x.2.2))))] ∧ eqH [.box [AV.int .i64 (Tp.n n_11.1), AV.sl (List.length (Tp.ops n_11.1)) 4 (opG (Tp.ops n_11.1)), AV.sl (List.length (n_11.2.1)) 1 (ratG (n_11.2.1)), AV.int .i64 n_12.2]] [.box [AV.int .i64 (Tp.n x.1), AV.sl (List.length (Tp.ops x.1)) 4 (opG (Tp.ops x.1)), AV.sl (List.length (x.2.1)) 1 (ratG (x.2.1)), AV.int .i64 (Prod.fst (x.2.2))]] ∧ 1 = 1 ∧ (Prod.fst (Prod.snd (x.2.2)) = (3 : Int) ∨ Prod.fst (Prod.snd (x.2.2)) = (4 : Int) ∨ Prod.fst (Prod.snd (x.2.2)) = (5 : Int) ∨ Prod.fst (Prod.snd (x.2.2)) = (6 : Int)) ∧ List.length (Prod.fst (Prod.snd (Prod.snd (x.2.2)))) < 2305843009213693952 ∧ List.length (Prod.snd (Prod.snd (Prod.snd (x.2.2)))) < 2305843009213693952) fun n_13 => .all (fun (r : List UInt8 × Int) => r = stp (Prod.fst (n_13.2.2)) (arR (Prod.fst (Prod.snd (n_13.2.2)))) (Prod.fst (Prod.snd (Prod.snd (n_13.2.2)))) (Prod.snd (Prod.snd (Prod.snd (n_13.2.2))))) fun n_14 => .ex (fun (x : Tp × List (List UInt8) × Int × Int × List UInt8 × List UInt8) => eqL [AV.ptr 0 0, AV.fn 23 [] [], AV.str n_14.1, AV.str v] [AV.ptr 0 0, AV.fn (opN (Prod.fst (Prod.snd (x.2.2)))) [] [], AV.str (Prod.fst (Prod.snd (Prod.snd (x.2.2)))), AV.str (Prod.snd (Prod.snd (Prod.snd (x.2.2))))] ∧ eqH [.box [AV.int .i64 (Tp.n n_13.1), AV.sl (List.length (Tp.ops n_13.1)) 4 (opG (Tp.ops n_13.1)), AV.sl (List.length (n_13.2.1)) 1 (ratG (n_13.2.1)), AV.int .i64 n_14.2]] [.box [AV.int .i64 (Tp.n x.1), AV.sl (List.length (Tp.ops x.1)) 4 (opG (Tp.ops x.1)), AV.sl (List.length (x.2.1)) 1 (ratG (x.2.1)), AV.int .i64 (Prod.fst (x.2.2))]] ∧ 1 = 1 ∧ (Prod.fst (Prod.snd (x.2.2)) = (3 : Int) ∨ Prod.fst (Prod.snd (x.2.2)) = (4 : Int) ∨ Prod.fst (Prod.snd (x.2.2)) = (5 : Int) ∨ Prod.fst (Prod.snd (x.2.2)) = (6 : Int)) ∧ List.length (Prod.fst (Prod.snd (Prod.snd (x.2.2)))) < 2305843009213693952 ∧ List.length (Prod.snd (Prod.snd (Prod.snd (x.2.2)))) < 2305843009213693952) fun n_15 => .all (fun (r : List UInt8 × Int) => r = stp (Prod.fst (n_15.2.2)) (arR (Prod.fst (Prod.snd (n_15.2.2)))) (Prod.fst (Prod.snd (Prod.snd (n_15.2.2)))) (Prod.snd (Prod.snd (Prod.snd (n_15.2.2))))) fun n_16 => .ex (fun (x : Tp × List (List UInt8) × Int × Int × List UInt8 × List UInt8) => eqL [AV.ptr 0 0, AV.fn 27 [] [], AV.str h, AV.str h] [AV.ptr 0 0, AV.fn (opN (Prod.fst (Prod.snd (x.2.2)))) [] [], AV.str (Prod.fst (Prod.snd (Prod.snd (x.2.2)))), AV.str (Prod.snd (Prod.snd (Prod.snd (x.2.2))))] ∧ eqH [.box [AV.int .i64 (Tp.n n_15.1), AV.sl (List.length (Tp.ops n_15.1)) 4 (opG (Tp.ops n_15.1)), AV.sl (List.length (n_15.2.1)) 1 (ratG (n_15.2.1)), AV.int .i64 n_16.2]] [.box [AV.int .i64 (Tp.n x.1), AV.sl (List.length (Tp.ops x.1)) 4 (opG (Tp.ops x.1)), AV.sl (List.length (x.2.1)) 1 (ratG (x.2.1)), AV.int .i64 (Prod.fst (x.2.2))]] ∧ 1 = 1 ∧ (Prod.fst (Prod.snd (x.2.2)) = (3 : Int) ∨ Prod.fst (Prod.snd (x.2.2)) = (4 : Int) ∨ Prod.fst (Prod.snd (x.2.2)) = (5 : Int) ∨ Prod.fst (Prod.snd (x.2.2)) = (6 : Int)) ∧ List.length (Prod.fst (Prod.snd (Prod.snd (x.2.2)))) < 2305843009213693952 ∧ List.length (Prod.snd (Prod.snd (Prod.snd (x.2.2)))) < 2305843009213693952) fun n_17 => .all (fun (r : List UInt8 × Int) => r = stp (Prod.fst (n_17.2.2)) (arR (Prod.fst (Prod.snd (n_17.2.2)))) (Prod.fst (Prod.snd (Prod.snd (n_17.2.2)))) (Prod.snd (Prod.snd (Prod.snd (n_17.2.2))))) fun n_18 => .leaf (.ret [.str n_16.1, .str n_18.1] [.box [.int .i64 (Tp.n n_17.1), .sl (List.length (Tp.ops n_17.1)) 4 (opG (Tp.ops n_17.1)), .sl (List.length (n_17.2.1)) 1 (ratG (n_17.2.1)), .int .i64 n_18.2], .box [.str h], .box [.int .i64 i], .box [.int .i64 k], Blk.arrI .i64 (List.length (Prod.snd (Prod.snd (n.2.2)))) (dgF (Prod.snd (Prod.snd (n.2.2)))), Blk.arrI .i64 (List.length (Prod.snd (Prod.snd (n_7.2.2)))) (dgF (Prod.snd (Prod.snd (n_7.2.2)))), Blk.arrI .i64 (List.length (Prod.snd (Prod.snd (n_9.2.2)))) (dgF (Prod.snd (Prod.snd (n_9.2.2))))])) (.ex (fun (x : Tp × List (List UInt8) × Int × List UInt8 × List Int) => eqL [AV.ptr 0 0, AV.str h, AV.osl 1 1 0 1] [AV.ptr 0 0, AV.str (Prod.fst (Prod.snd (x.2.2))), AV.osl 1 1 0 (List.length (Prod.snd (Prod.snd (x.2.2))))] ∧ eqH [.box [AV.int .i64 (Tp.n n.1), AV.sl (List.length (Tp.ops n.1)) 4 (opG (Tp.ops n.1)), AV.sl (List.length (n.2.1)) 1 (ratG (n.2.1)), AV.int .i64 n_5.2], .arr 1 1 (zc 1 [AV.int .i64 i])] [.box [AV.int .i64 (Tp.n x.1), AV.sl (List.length (Tp.ops x.1)) 4 (opG (Tp.ops x.1)), AV.sl (List.length (x.2.1)) 1 (ratG (x.2.1)), AV.int .i64 (Prod.fst (x.2.2))], Blk.arrI .i64 (List.length (Prod.snd (Prod.snd (x.2.2)))) (dgF (Prod.snd (Prod.snd (x.2.2))))] ∧ 2 = 2 ∧ zf x.1 = 0 ∧ (↑(List.length (x.2.1)) : Int) = Tp.n x.1 ∧ allQ (x.2.1) ∧ errR (Prod.fst (Prod.snd (x.2.2))) = (0 : Int) ∧ (∀ (i : Int), i ∈ Prod.snd (Prod.snd (x.2.2)) → (0 : Int) ≤ i ∧ i < Tp.n x.1) ∧ List.length (Prod.snd (Prod.snd (x.2.2))) < 1099511627776) fun n_7 => .all (fun (r : List UInt8 × Int) => r = stpA (Prod.fst (n_7.2.2)) (atT n_7.1 (n_7.2.1) (Prod.fst (Prod.snd (n_7.2.2))) (Prod.snd (Prod.snd (n_7.2.2))))) fun n_8 => .ex (fun (x : Tp × List (List UInt8) × Int × List UInt8 × List Int) => eqL [AV.ptr 0 0, AV.str h, AV.osl 1 1 0 1] [AV.ptr 0 0, AV.str (Prod.fst (Prod.snd (x.2.2))), AV.osl 1 1 0 (List.length (Prod.snd (Prod.snd (x.2.2))))] ∧ eqH [.box [AV.int .i64 (Tp.n n_7.1), AV.sl (List.length (Tp.ops n_7.1)) 4 (opG (Tp.ops n_7.1)), AV.sl (List.length (n_7.2.1)) 1 (ratG (n_7.2.1)), AV.int .i64 n_8.2], .arr 1 1 (zc 1 [AV.int .i64 k])] [.box [AV.int .i64 (Tp.n x.1), AV.sl (List.length (Tp.ops x.1)) 4 (opG (Tp.ops x.1)), AV.sl (List.length (x.2.1)) 1 (ratG (x.2.1)), AV.int .i64 (Prod.fst (x.2.2))], Blk.arrI .i64 (List.length (Prod.snd (Prod.snd (x.2.2)))) (dgF (Prod.snd (Prod.snd (x.2.2))))] ∧ 2 = 2 ∧ zf x.1 = 0 ∧ (↑(List.length (x.2.1)) : Int) = Tp.n x.1 ∧ allQ (x.2.1) ∧ errR (Prod.fst (Prod.snd (x.2.2))) = (0 : Int) ∧ (∀ (i : Int), i ∈ Prod.snd (Prod.snd (x.2.2)) → (0 : Int) ≤ i ∧ i < Tp.n x.1) ∧ List.length (Prod.snd (Prod.snd (x.2.2))) < 1099511627776) fun n_9 => .all (fun (r : List UInt8 × Int) => r = stpA (Prod.fst (n_9.2.2)) (atT n_9.1 (n_9.2.1) (Prod.fst (Prod.snd (n_9.2.2))) (Prod.snd (Prod.snd (n_9.2.2))))) fun n_10 => .ex (fun (x : Tp × List (List UInt8) × Int × Int × List UInt8 × List UInt8) => eqL [AV.ptr 0 0, AV.fn 24 [] [], AV.str n_5.1, AV.str n_8.1] [AV.ptr 0 0, AV.fn (opN (Prod.fst (Prod.snd (x.2.2)))) [] [], AV.str (Prod.fst (Prod.snd (Prod.snd (x.2.2)))), AV.str (Prod.snd (Prod.snd (Prod.snd (x.2.2))))] ∧ eqH [.box [AV.int .i64 (Tp.n n_9.1), AV.sl (List.length (Tp.ops n_9.1)) 4 (opG (Tp.ops n_9.1)), AV.sl (List.length (n_9.2.1)) 1 (ratG (n_9.2.1)), AV.int .i64 n_10.2]] [.box [AV.int .i64 (Tp.n x.1), AV.sl (List.length (Tp.ops x.1)) 4 (opG (Tp.ops x.1)), AV.sl (List.length (x.2.1)) 1 (ratG (x.2.1)), AV.int .i64 (Prod.fst (x.2.2))]] ∧ 1 = 1 ∧ (Prod.fst (Prod.snd (x.2.2)) = (3 : Int) ∨ Prod.fst (Prod.snd (x.2.2)) = (4 : Int) ∨ Prod.fst (Prod.snd (x.2.2)) = (5 : Int) ∨ Prod.fst (Prod.snd (x.2.2)) = (6 : Int)) ∧ List.length (Prod.fst (Prod.snd (Prod.snd (x.2.2)))) < 2305843009213693952 ∧ List.length (Prod.snd (Prod.snd (Prod.snd (x.2.2)))) < 2305843009213693952) fun n_11 => .all (fun (r : List UInt8 × Int) => r = stp (Prod.fst (n_11.2.2)) (arR (Prod.fst (Prod.snd (n_11.2.2)))) (Prod.fst (Prod.snd (Prod.snd (n_11.2.2)))) (Prod.snd (Prod.snd (Prod.snd (n_11.2.2))))) fun n_12 => .ex (fun (x : Tp × List (List UInt8) × Int × Int × List UInt8 × List UInt8) => eqL [AV.ptr 0 0, AV.fn 24 [] [], AV.str n_12.1, AV.str n_10.1] [AV.ptr 0 0, AV.fn (opN (Prod.fst (Prod.snd (x.2.2)))) [] [], AV.str (Prod.fst (Prod.snd (Prod.snd (x.2.2)))), AV.str (Prod.snd (Prod.snd (Prod.snd (x.2.2))))] ∧ eqH [.box [AV.int .i64 (Tp.n n_11.1), AV.sl (List.length (Tp.ops n_11.1)) 4 (opG (Tp.ops n_11.1)), AV.sl (List.length (n_11.2.1)) 1 (ratG (n_11.2.1)), AV.int .i64 n_12.2]] [.box [AV.int .i64 (Tp.n x.1), AV.sl (List.length (Tp.ops x.1)) 4 (opG (Tp.ops x.1)), AV.sl (List.length (x.2.1)) 1 (ratG (x.2.1)), AV.int .i64 (Prod.fst (x.2.2))]] ∧ 1 = 1 ∧ (Prod.fst (Prod.snd (x.2.2)) = (3 : Int) ∨ Prod.fst (Prod.snd (x.2.2)) = (4 : Int) ∨ Prod.fst (Prod.snd (x.2.2)) = (5 : Int) ∨ Prod.fst (Prod.snd (x.2.2)) = (6 : Int)) ∧ List.length (Prod.fst (Prod.snd (Prod.snd (x.2.2)))) < 2305843009213693952 ∧ List.length (Prod.snd (Prod.snd (Prod.snd (x.2.2)))) < 2305843009213693952) fun n_13 => .all (fun (r : List UInt8 × Int) => r = stp (Prod.fst (n_13.2.2)) (arR (Prod.fst (Prod.snd (n_13.2.2)))) (Prod.fst (Prod.snd (Prod.snd (n_13.2.2)))) (Prod.snd (Prod.snd (Prod.snd (n_13.2.2))))) fun n_14 => .ex (fun (x : Tp × List (List UInt8) × Int × Int × List UInt8 × List UInt8) => eqL [AV.ptr 0 0, AV.fn 23 [] [], AV.str n_14.1, AV.str v] [AV.ptr 0 0, AV.fn (opN (Prod.fst (Prod.snd (x.2.2)))) [] [], AV.str (Prod.fst (Prod.snd (Prod.snd (x.2.2)))), AV.str (Prod.snd (Prod.snd (Prod.snd (x.2.2))))] ∧ eqH [.box [AV.int .i64 (Tp.n n_13.1), AV.sl (List.length (Tp.ops n_13.1)) 4 (opG (Tp.ops n_13.1)), AV.sl (List.length (n_13.2.1)) 1 (ratG (n_13.2.1)), AV.int .i64 n_14.2]] [.box [AV.int .i64 (Tp.n x.1), AV.sl (List.length (Tp.ops x.1)) 4 (opG (Tp.ops x.1)), AV.sl (List.length (x.2.1)) 1 (ratG (x.2.1)), AV.int .i64 (Prod.fst (x.2.2))]] ∧ 1 = 1 ∧ (Prod.fst (Prod.snd (x.2.2)) = (3 : Int) ∨ Prod.fst (Prod.snd (x.2.2)) = (4 : Int) ∨ Prod.fst (Prod.snd (x.2.2)) = (5 : Int) ∨ Prod.fst (Prod.snd (x.2.2)) = (6 : Int)) ∧ List.length (Prod.fst (Prod.snd (Prod.snd (x.2.2)))) < 2305843009213693952 ∧ List.length (Prod.snd (Prod.snd (Prod.snd (x.2.2)))) < 2305843009213693952) fun n_15 => .all (fun (r : List UInt8 × Int) => r = stp (Prod.fst (n_15.2.2)) (arR (Prod.fst (Prod.snd (n_15.2.2)))) (Prod.fst (Prod.snd (Prod.snd (n_15.2.2)))) (Prod.snd (Prod.snd (Prod.snd (n_15.2.2))))) fun n_16 => .ex (fun (x : Tp × List (List UInt8) × Int × Int × List UInt8 × List UInt8) => eqL [AV.ptr 0 0, AV.fn 27 [] [], AV.str h, AV.str h] [AV.ptr 0 0, AV.fn (opN (Prod.fst (Prod.snd (x.2.2)))) [] [], AV.str (Prod.fst (Prod.snd (Prod.snd (x.2.2)))), AV.str (Prod.snd (Prod.snd (Prod.snd (x.2.2))))] ∧ eqH [.box [AV.int .i64 (Tp.n n_15.1), AV.sl (List.length (Tp.ops n_15.1)) 4 (opG (Tp.ops n_15.1)), AV.sl (List.length (n_15.2.1)) 1 (ratG (n_15.2.1)), AV.int .i64 n_16.2]] [.box [AV.int .i64 (Tp.n x.1), AV.sl (List.length (Tp.ops x.1)) 4 (opG (Tp.ops x.1)), AV.sl (List.length (x.2.1)) 1 (ratG (x.2.1)), AV.int .i64 (Prod.fst (x.2.2))]] ∧ 1 = 1 ∧ (Prod.fst (Prod.snd (x.2.2)) = (3 : Int) ∨ Prod.fst (Prod.snd (x.2.2)) = (4 : Int) ∨ Prod.fst (Prod.snd (x.2.2)) = (5 : Int) ∨ Prod.fst (Prod.snd (x.2.2)) = (6 : Int)) ∧ List.length (Prod.fst (Prod.snd (Prod.snd (x.2.2)))) < 2305843009213693952 ∧ List.length (Prod.snd (Prod.snd (Prod.snd (x.2.2)))) < 2305843009213693952) fun n_17 => .all (fun (r : List UInt8 × Int) => r = stp (Prod.fst (n_17.2.2)) (arR (Prod.fst (Prod.snd (n_17.2.2)))) (Prod.fst (Prod.snd (Prod.snd (n_17.2.2)))) (Prod.snd (Prod.snd (Prod.snd (n_17.2.2))))) fun n_18 => .leaf (.ret [.str n_16.1, .str n_18.1] [.box [.int .i64 (Tp.n n_17.1), .sl (List.length (Tp.ops n_17.1)) 4 (opG (Tp.ops n_17.1)), .sl (List.length (n_17.2.1)) 1 (ratG (n_17.2.1)), .int .i64 n_18.2], .box [.str h], .box [.int .i64 i], .box [.int .i64 k], Blk.arrI .i64 (List.length (Prod.snd (Prod.snd (n.2.2)))) (dgF (Prod.snd (Prod.snd (n.2.2)))), Blk.arrI .i64 (List.length (Prod.snd (Prod.snd (n_7.2.2)))) (dgF (Prod.snd (Prod.snd (n_7.2.2)))), Blk.arrI .i64 (List.length (Prod.snd (Prod.snd (n_9.2.2)))) (dgF (Prod.snd (Prod.snd (n_9.2.2))))]))) (.ex (fun (x : Tp × List (List UInt8) × Int × List UInt8 × List Int) => eqL [AV.ptr 0 0, AV.str h, AV.osl 1 1 0 2] [AV.ptr 0 0, AV.str (Prod.fst (Prod.snd (x.2.2))), AV.osl 1 1 0 (List.length (Prod.snd (Prod.snd (x.2.2))))] ∧ eqH [.box [AV.int .i64 n, AV.sl ops.length 4 (opG ops), AV.sl inp.length 1 (ratG inp), AV.int .i64 0], .arr 2 1 (zc 1 [AV.int .i64 i, AV.int .i64 k])] [.box [AV.int .i64 (Tp.n x.1), AV.sl (List.length (Tp.ops x.1)) 4 (opG (Tp.ops x.1)), AV.sl (List.length (x.2.1)) 1 (ratG (x.2.1)), AV.int .i64 (Prod.fst (x.2.2))], Blk.arrI .i64 (List.length (Prod.snd (Prod.snd (x.2.2)))) (dgF (Prod.snd (Prod.snd (x.2.2))))] ∧ 2 = 2 ∧ zf x.1 = 0 ∧ (↑(List.length (x.2.1)) : Int) = Tp.n x.1 ∧ allQ (x.2.1) ∧ errR (Prod.fst (Prod.snd (x.2.2))) = (0 : Int) ∧ (∀ (i : Int), i ∈ Prod.snd (Prod.snd (x.2.2)) → (0 : Int) ≤ i ∧ i < Tp.n x.1) ∧ List.length (Prod.snd (Prod.snd (x.2.2))) < 1099511627776) fun n => .all (fun (r : List UInt8 × Int) => r = stpA (Prod.fst (n.2.2)) (atT n.1 (n.2.1) (Prod.fst (Prod.snd (n.2.2))) (Prod.snd (Prod.snd (n.2.2))))) fun n_5 => .ex (fun (x : Tp × List (List UInt8) × Int × List UInt8 × List Int) => eqL [AV.ptr 0 0, AV.str h, AV.osl 1 1 0 1] [AV.ptr 0 0, AV.str (Prod.fst (Prod.snd (x.2.2))), AV.osl 1 1 0 (List.length (Prod.snd (Prod.snd (x.2.2))))] ∧ eqH [.box [AV.int .i64 (Tp.n n.1), AV.sl (List.length (Tp.ops n.1)) 4 (opG (Tp.ops n.1)), AV.sl (List.length (n.2.1)) 1 (ratG (n.2.1)), AV.int .i64 n_5.2], .arr 1 1 (zc 1 [AV.int .i64 i])] [.box [AV.int .i64 (Tp.n x.1), AV.sl (List.length (Tp.ops x.1)) 4 (opG (Tp.ops x.1)), AV.sl (List.length (x.2.1)) 1 (ratG (x.2.1)), AV.int .i64 (Prod.fst (x.2.2))], Blk.arrI .i64 (List.length (Prod.snd (Prod.snd (x.2.2)))) (dgF (Prod.snd (Prod.snd (x.2.2))))] ∧ 2 = 2 ∧ zf x.1 = 0 ∧ (↑(List.length (x.2.1)) : Int) = Tp.n x.1 ∧ allQ (x.2.1) ∧ errR (Prod.fst (Prod.snd (x.2.2))) = (0 : Int) ∧ (∀ (i : Int), i ∈ Prod.snd (Prod.snd (x.2.2)) → (0 : Int) ≤ i ∧ i < Tp.n x.1) ∧ List.length (Prod.snd (Prod.snd (x.2.2))) < 1099511627776) fun n_6 => .all (fun (r : List UInt8 × Int) => r = stpA (Prod.fst (n_6.2.2)) (atT n_6.1 (n_6.2.1) (Prod.fst (Prod.snd (n_6.2.2))) (Prod.snd (Prod.snd (n_6.2.2))))) fun n_7 => .ex (fun (x : Tp × List (List UInt8) × Int × List UInt8 × List Int) => eqL [AV.ptr 0 0, AV.str h, AV.osl 1 1 0 1] [AV.ptr 0 0, AV.str (Prod.fst (Prod.snd (x.2.2))), AV.osl 1 1 0 (List.length (Prod.snd (Prod.snd (x.2.2))))] ∧ eqH [.box [AV.int .i64 (Tp.n n_6.1), AV.sl (List.length (Tp.ops n_6.1)) 4 (opG (Tp.ops n_6.1)), AV.sl (List.length (n_6.2.1)) 1 (ratG (n_6.2.1)), AV.int .i64 n_7.2], .arr 1 1 (zc 1 [AV.int .i64 k])] [.box [AV.int .i64 (Tp.n x.1), AV.sl (List.length (Tp.ops x.1)) 4 (opG (Tp.ops x.1)), AV.sl (List.length (x.2.1)) 1 (ratG (x.2.1)), AV.int .i64 (Prod.fst (x.2.2))], Blk.arrI .i64 (List.length (Prod.snd (Prod.snd (x.2.2)))) (dgF (Prod.snd (Prod.snd (x.2.2))))] ∧ 2 = 2 ∧ zf x.1 = 0 ∧ (↑(List.length (x.2.1)) : Int) = Tp.n x.1 ∧ allQ (x.2.1) ∧ errR (Prod.fst (Prod.snd (x.2.2))) = (0 : Int) ∧ (∀ (i : Int), i ∈ Prod.snd (Prod.snd (x.2.2)) → (0 : Int) ≤ i ∧ i < Tp.n x.1) ∧ List.length (Prod.snd (Prod.snd (x.2.2))) < 1099511627776) fun n_8 => .all (fun (r : List UInt8 × Int) => r = stpA (Prod.fst (n_8.2.2)) (atT n_8.1 (n_8.2.1) (Prod.fst (Prod.snd (n_8.2.2))) (Prod.snd (Prod.snd (n_8.2.2))))) fun n_9 => .ex (fun (x : Tp × List (List UInt8) × Int × Int × List UInt8 × List UInt8) => eqL [AV.ptr 0 0, AV.fn 24 [] [], AV.str n_5.1, AV.str n_7.1] [AV.ptr 0 0, AV.fn (opN (Prod.fst (Prod.snd (x.2.2)))) [] [], AV.str (Prod.fst (Prod.snd (Prod.snd (x.2.2)))), AV.str (Prod.snd (Prod.snd (Prod.snd (x.2.2))))] ∧ eqH [.box [AV.int .i64 (Tp.n n_8.1), AV.sl (List.length (Tp.ops n_8.1)) 4 (opG (Tp.ops n_8.1)), AV.sl (List.length (n_8.2.1)) 1 (ratG (n_8.2.1)), AV.int .i64 n_9.2]] [.box [AV.int .i64 (Tp.n x.1), AV.sl (List.length (Tp.ops x.1)) 4 (opG (Tp.ops x.1)), AV.sl (List.length (x.2.1)) 1 (ratG (x.2.1)), AV.int .i64 (Prod.fst (x.2.2))]] ∧ 1 = 1 ∧ (Prod.fst (Prod.snd (x.2.2)) = (3 : Int) ∨ Prod.fst (Prod.snd (x.2.2)) = (4 : Int) ∨ Prod.fst (Prod.snd (x.2.2)) = (5 : Int) ∨ Prod.fst (Prod.snd (x.2.2)) = (6 : Int)) ∧ List.length (Prod.fst (Prod.snd (Prod.snd (x.2.2)))) < 2305843009213693952 ∧ List.length (Prod.snd (Prod.snd (Prod.snd (x.2.2)))) < 2305843009213693952) fun n_10 => .all (fun (r : List UInt8 × Int) => r = stp (Prod.fst (n_10.2.2)) (arR (Prod.fst (Prod.snd (n_10.2.2)))) (Prod.fst (Prod.snd (Prod.snd (n_10.2.2)))) (Prod.snd (Prod.snd (Prod.snd (n_10.2.2))))) fun n_11 => .ex (fun (x : Tp × List (List UInt8) × Int × Int × List UInt8 × List UInt8) => eqL [AV.ptr 0 0, AV.fn 24 [] [], AV.str n_11.1, AV.str n_9.1] [AV.ptr 0 0, AV.fn (opN (Prod.fst (Prod.snd (x.2.2)))) [] [], AV.str (Prod.fst (Prod.snd (Prod.snd (x.2.2)))), AV.str (Prod.snd (Prod.snd (Prod.snd (x.2.2))))] ∧ eqH [.box [AV.int .i64 (Tp.n n_10.1), AV.sl (List.length (Tp.ops n_10.1)) 4 (opG (Tp.ops n_10.1)), AV.sl (List.length (n_10.2.1)) 1 (ratG (n_10.2.1)), AV.int .i64 n_11.2]] [.box [AV.int .i64 (Tp.n x.1), AV.sl (List.length (Tp.ops x.1)) 4 (opG (Tp.ops x.1)), AV.sl (List.length (x.2.1)) 1 (ratG (x.2.1)), AV.int .i64 (Prod.fst (x.2.2))]] ∧ 1 = 1 ∧ (Prod.fst (Prod.snd (x.2.2)) = (3 : Int) ∨ Prod.fst (Prod.snd (x.2.2)) = (4 : Int) ∨ Prod.fst (Prod.snd (x.2.2)) = (5 : Int) ∨ Prod.fst (Prod.snd (x.2.2)) = (6 : Int)) ∧ List.length (Prod.fst (Prod.snd (Prod.snd (x.2.2)))) < 2305843009213693952 ∧ List.length (Prod.snd (Prod.snd (Prod.snd (x.2.2)))) < 2305843009213693952) fun n_12 => .all (fun (r : List UInt8 × Int) => r = stp (Prod.fst (n_12.2.2)) (arR (Prod.fst (Prod.snd (n_12.2.2)))) (Prod.fst (Prod.snd (Prod.snd (n_12.2.2)))) (Prod.snd (Prod.snd (Prod.snd (n_12.2.2))))) fun n_13 => .ex (fun (x : Tp × List (List UInt8) × Int × Int × List UInt8 × List UInt8) => eqL [AV.ptr 0 0, AV.fn 23 [] [], AV.str n_13.1, AV.str v] [AV.ptr 0 0, AV.fn (opN (Prod.fst (Prod.snd (x.2.2)))) [] [], AV.str (Prod.fst (Prod.snd (Prod.snd (x.2.2)))), AV.str (Prod.snd (Prod.snd (Prod.snd (x.2.2))))] ∧ eqH [.box [AV.int .i64 (Tp.n n_12.1), AV.sl (List.length (Tp.ops n_12.1)) 4 (opG (Tp.ops n_12.1)), AV.sl (List.length (n_12.2.1)) 1 (ratG (n_12.2.1)), AV.int .i64 n_13.2]] [.box [AV.int .i64 (Tp.n x.1), AV.sl (List.length (Tp.ops x.1)) 4 (opG (Tp.ops x.1)), AV.sl (List.length (x.2.1)) 1 (ratG (x.2.1)), AV.int .i64 (Prod.fst (x.2.2))]] ∧ 1 = 1 ∧ (Prod.fst (Prod.snd (x.2.2)) = (3 : Int) ∨ Prod.fst (Prod.snd (x.2.2)) = (4 : Int) ∨ Prod.fst (Prod.snd (x.2.2)) = (5 : Int) ∨ Prod.fst (Prod.snd (x.2.2)) = (6 : Int)) ∧ List.length (Prod.fst (Prod.snd (Prod.snd (x.2.2)))) < 2305843009213693952 ∧ List.length (Prod.snd (Prod.snd (Prod.snd (x.2.2)))) < 2305843009213693952) fun n_14 => .all (fun (r : List UInt8 × Int) => r = stp (Prod.fst (n_14.2.2)) (arR (Prod.fst (Prod.snd (n_14.2.2)))) (Prod.fst (Prod.snd (Prod.snd (n_14.2.2)))) (Prod.snd (Prod.snd (Prod.snd (n_14.2.2))))) fun n_15 => .ex (fun (x : Tp × List (List UInt8) × Int × Int × List UInt8 × List UInt8) => eqL [AV.ptr 0 0, AV.fn 27 [] [], AV.str h, AV.str h] [AV.ptr 0 0, AV.fn (opN (Prod.fst (Prod.snd (x.2.2)))) [] [], AV.str (Prod.fst (Prod.snd (Prod.snd (x.2.2)))), AV.str (Prod.snd (Prod.snd (Prod.snd (x.2.2))))] ∧ eqH [.box [AV.int .i64 (Tp.n n_14.1), AV.sl (List.length (Tp.ops n_14.1)) 4 (opG (Tp.ops n_14.1)), AV.sl (List.length (n_14.2.1)) 1 (ratG (n_14.2.1)), AV.int .i64 n_15.2]] [.box [AV.int .i64 (Tp.n x.1), AV.sl (List.length (Tp.ops x.1)) 4 (opG (Tp.ops x.1)), AV.sl (List.length (x.2.1)) 1 (ratG (x.2.1)), AV.int .i64 (Prod.fst (x.2.2))]] ∧ 1 = 1 ∧ (Prod.fst (Prod.snd (x.2.2)) = (3 : Int) ∨ Prod.fst (Prod.snd (x.2.2)) = (4 : Int) ∨ Prod.fst (Prod.snd (x.2.2)) = (5 : Int) ∨ Prod.fst (Prod.snd (x.2.2)) = (6 : Int)) ∧ List.length (Prod.fst (Prod.snd (Prod.snd (x.2.2)))) < 2305843009213693952 ∧ List.length (Prod.snd (Prod.snd (Prod.snd (x.2.2)))) < 2305843009213693952) fun n_16 => .all (fun (r : List UInt8 × Int) => r = stp (Prod.fst (n_16.2.2)) (arR (Prod.fst (Prod.snd (n_16.2.2)))) (Prod.fst (Prod.snd (Prod.snd (n_16.2.2)))) (Prod.snd (Prod.snd (Prod.snd (n_16.2.2))))) fun n_17 => .leaf (.ret [.str n_15.1, .str n_17.1] [.box [.int .i64 (Tp.n n_16.1), .sl (List.length (Tp.ops n_16.1)) 4 (opG (Tp.ops n_16.1)), .sl (List.length (n_16.2.1)) 1 (ratG (n_16.2.1)), .int .i64 n_17.2], .box [.str h], .box [.int .i64 i], .box [.int .i64 k], Blk.arrI .i64 (List.length (Prod.snd (Prod.snd (n.2.2)))) (dgF (Prod.snd (Prod.snd (n.2.2)))), Blk.arrI .i64 (List.length (Prod.snd (Prod.snd (n_6.2.2)))) (dgF (Prod.snd (Prod.snd (n_6.2.2)))), Blk.arrI .i64 (List.length (Prod.snd (Prod.snd (n_8.2.2)))) (dgF (Prod.snd (Prod.snd (n_8.2.2))))]))) (.all (fun (x : Bool) => True) fun n_4 => .ite n_4 (.ex (fun (x : Tp × List (List UInt8) × Int × List UInt8 × List Int) => eqL [AV.ptr 0 0, AV.str h, AV.osl 1 1 0 2] [AV.ptr 0 0, AV.str (Prod.fst (Prod.snd (x.2.2))), AV.osl 1 1 0 (List.length (Prod.snd (Prod.snd (x.2.2))))] ∧ eqH [.box [AV.int .i64 n, AV.sl ops.length 4 (opG ops), AV.sl inp.length 1 (ratG inp), AV.int .i64 0], .arr 2 1 (zc 1 [AV.int .i64 i, AV.int .i64 k])] [.box [AV.int .i64 (Tp.n x.1), AV.sl (List.length (Tp.ops x.1)) 4 (opG (Tp.ops x.1)), AV.sl (List.length (x.2.1)) 1 (ratG (x.2.1)), AV.int .i64 (Prod.fst (x.2.2))], Blk.arrI .i64 (List.length (Prod.snd (Prod.snd (x.2.2)))) (dgF (Prod.snd (Prod.snd (x.2.2))))] ∧ 2 = 2 ∧ zf x.1 = 0 ∧ (↑(List.length (x.2.1)) : Int) = Tp.n x.1 ∧ allQ (x.2.1) ∧ errR (Prod.fst (Prod.snd (x.2.2))) = (0 : Int) ∧ (∀ (i : Int), i ∈ Prod.snd (Prod.snd (x.2.2)) → (0 : Int) ≤ i ∧ i < Tp.n x.1) ∧ List.length (Prod.snd (Prod.snd (x.2.2))) < 1099511627776) fun n => .all (fun (r : List UInt8 × Int) => r = stpA (Prod.fst (n.2.2)) (atT n.1 (n.2.1) (Prod.fst (Prod.snd (n.2.2))) (Prod.snd (Prod.snd (n.2.2))))) fun n_5 => .ex (fun (x : Tp × List (List UInt8) × Int × List UInt8 × List Int) => eqL [AV.ptr 0 0, AV.str h, AV.osl 1 1 0 1] [AV.ptr 0 0, AV.str (Prod.fst (Prod.snd (x.2.2))), AV.osl 1 1 0 (List.length (Prod.snd (Prod.snd (x.2.2))))] ∧ eqH [.box [AV.int .i64 (Tp.n n.1), AV.sl (List.length (Tp.ops n.1)) 4 (opG (Tp.ops n.1)), AV.sl (List.length (n.2.1)) 1 (ratG (n.2.1)), AV.int .i64 n_5.2], .arr 1 1 (zc 1 [AV.int .i64 i])] [.box [AV.int .i64 (Tp.n x.1), AV.sl (List.length (Tp.ops x.1)) 4 (opG (Tp.ops x.1)), AV.sl (List.length (x.2.1)) 1 (ratG (x.2.1)), AV.int .i64 (Prod.fst (x.2.2))], Blk.arrI .i64 (List.length (Prod.snd (Prod.snd (x.2.2)))) (dgF (Prod.snd (Prod.snd (x.2.2))))] ∧ 2 = 2 ∧ zf x.1 = 0 ∧ (↑(List.length (x.2.1)) : Int) = Tp.n x.1 ∧ allQ (x.2.1) ∧ errR (Prod.fst (Prod.snd (x.2.2))) = (0 : Int) ∧ (∀ (i : Int), i ∈ Prod.snd (Prod.snd (x.2.2)) → (0 : Int) ≤ i ∧ i < Tp.n x.1) ∧ List.length (Prod.snd (Prod.snd (x.2.2))) < 1099511627776) fun n_6 => .all (fun (r : List UInt8 × Int) => r = stpA (Prod.fst (n_6.2.2)) (atT n_6.1 (n_6.2.1) (Prod.fst (Prod.snd (n_6.2.2))) (Prod.snd (Prod.snd (n_6.2.2))))) fun n_7 => .ex (fun (x : Tp × List (List UInt8) × Int × List UInt8 × List Int) => eqL [AV.ptr 0 0, AV.str h, AV.osl 1 1 0 1] [AV.ptr 0 0, AV.str (Prod.fst (Prod.snd (x.2.2))), AV.osl 1 1 0 (List.length (Prod.snd (Prod.snd (x.2.2))))] ∧ eqH [.box [AV.int .i64 (Tp.n n_6.1), AV.sl (List.length (Tp.ops n_6.1)) 4 (opG (Tp.ops n_6.1)), AV.sl (List.length (n_6.2.1)) 1 (ratG (n_6.2.1)), AV.int .i64 n_7.2], .arr 1 1 (zc 1 [AV.int .i64 k])] [.box [AV.int .i64 (Tp.n x.1), AV.sl (List.length (Tp.ops x.1)) 4 (opG (Tp.ops x.1)), AV.sl (List.length (x.2.1)) 1 (ratG (x.2.1)), AV.int .i64 (Prod.fst (x.2.2))], Blk.arrI .i64 (List.length (Prod.snd (Prod.snd (x.2.2)))) (dgF (Prod.snd (Prod.snd (x.2.2))))] ∧ 2 = 2 ∧ zf x.1 = 0 ∧ (↑(List.length (x.2.1)) : Int) = Tp.n x.1 ∧ allQ (x.2.1) ∧ errR (Prod.fst (Prod.snd (x.2.2))) = (0 : Int) ∧ (∀ (i : Int), i ∈ Prod.snd (Prod.snd (x.2.2)) → (0 : Int) ≤ i ∧ i < Tp.n x.1) ∧ List.length (Prod.snd (Prod.snd (x.2.2))) < 1099511627776) fun n_8 => .all (fun (r : List UInt8 × Int) => r = stpA (Prod.fst (n_8.2.2)) (atT n_8.1 (n_8.2.1) (Prod.fst (Prod.snd (n_8.2.2))) (Prod.snd (Prod.snd (n_8.2.2))))) fun n_9 => .ex (fun (x : Tp × List (List UInt8) × Int × Int × List UInt8 × List UInt8) => eqL [AV.ptr 0 0, AV.fn 24 [] [], AV.str n_5.1, AV.str n_7.1] [AV.ptr 0 0, AV.fn (opN (Prod.fst (Prod.snd (x.2.2)))) [] [], AV.str (Prod.fst (Prod.snd (Prod.snd (x.2.2)))), AV.str (Prod.snd (Prod.snd (Prod.snd (x.2.2))))] ∧ eqH [.box [AV.int .i64 (Tp.n n_8.1), AV.sl (List.length (Tp.ops n_8.1)) 4 (opG (Tp.ops n_8.1)), AV.sl (List.length (n_8.2.1)) 1 (ratG (n_8.2.1)), AV.int .i64 n_9.2]] [.box [AV.int .i64 (Tp.n x.1), AV.sl (List.length (Tp.ops x.1)) 4 (opG (Tp.ops x.1)), AV.sl (List.length (x.2.1)) 1 (ratG (x.2.1)), AV.int .i64 (Prod.fst (x.2.2))]] ∧ 1 = 1 ∧ (Prod.fst (Prod.snd (x.2.2)) = (3 : Int) ∨ Prod.fst (Prod.snd (x.2.2)) = (4 : Int) ∨ Prod.fst (Prod.snd (x.2.2)) = (5 : Int) ∨ Prod.fst (Prod.snd (x.2.2)) = (6 : Int)) ∧ List.length (Prod.fst (Prod.snd (Prod.snd (x.2.2)))) < 2305843009213693952 ∧ List.length (Prod.snd (Prod.snd (Prod.snd (x.2.2)))) < 2305843009213693952) fun n_10 => .all (fun (r : List UInt8 × Int) => r = stp (Prod.fst (n_10.2.2)) (arR (Prod.fst (Prod.snd (n_10.2.2)))) (Prod.fst (Prod.snd (Prod.snd (n_10.2.2)))) (Prod.snd (Prod.snd (Prod.snd (n_10.2.2))))) fun n_11 => .ex (fun (x : Tp × List (List UInt8) × Int × Int × List UInt8 × List UInt8) => eqL [AV.ptr 0 0, AV.fn 24 [] [], AV.str n_11.1, AV.str n_9.1] [AV.ptr 0 0, AV.fn (opN (Prod.fst (Prod.snd (x.2.2)))) [] [], AV.str (Prod.fst (Prod.snd (Prod.snd (x.2.2)))), AV.str (Prod.snd (Prod.snd (Prod.snd (x.2.2))))] ∧ eqH [.box [AV.int .i64 (Tp.n n_10.1), AV.sl (List.length (Tp.ops n_10.1)) 4 (opG (Tp.ops n_10.1)), AV.sl (List.length (n_10.2.1)) 1 (ratG (n_10.2.1)), AV.int .i64 n_11.2]] [.box [AV.int .i64 (Tp.n x.1), AV.sl (List.length (Tp.ops x.1)) 4 (opG (Tp.ops x.1)), AV.sl (List.length (x.2.1)) 1 (ratG (x.2.1)), AV.int .i64 (Prod.fst (x.2.2))]] ∧ 1 = 1 ∧ (Prod.fst (Prod.snd (x.2.2)) = (3 : Int) ∨ Prod.fst (Prod.snd (x.2.2)) = (4 : Int) ∨ Prod.fst (Prod.snd (x.2.2)) = (5 : Int) ∨ Prod.fst (Prod.snd (x.2.2)) = (6 : Int)) ∧ List.length (Prod.fst (Prod.snd (Prod.snd (x.2.2)))) < 2305843009213693952 ∧ List.length (Prod.snd (Prod.snd (Prod.snd (x.2.2)))) < 2305843009213693952) fun n_12 => .all (fun (r : List UInt8 × Int) => r = stp (Prod.fst (n_12.2.2)) (arR (Prod.fst (Prod.snd (n_12.2.2)))) (Prod.fst (Prod.snd (Prod.snd (n_12.2.2)))) (Prod.snd (Prod.snd (Prod.snd (n_12.2.2))))) fun n_13 => .ex (fun (x : Tp × List (List UInt8) × Int × Int × List UInt8 × List UInt8) => eqL [AV.ptr 0 0, AV.fn 23 [] [], AV.str n_13.1, AV.str v] [AV.ptr 0 0, AV.fn (opN (Prod.fst (Prod.snd (x.2.2)))) [] [], AV.str (Prod.fst (Prod.snd (Prod.snd (x.2.2)))), AV.str (Prod.snd (Prod.snd (Prod.snd (x.2.2))))] ∧ eqH [.box [AV.int .i64 (Tp.n n_12.1), AV.sl (List.length (Tp.ops n_12.1)) 4 (opG (Tp.ops n_12.1)), AV.sl (List.length (n_12.2.1)) 1 (ratG (n_12.2.1)), AV.int .i64 n_13.2]] [.box [AV.int .i64 (Tp.n x.1), AV.sl (List.length (Tp.ops x.1)) 4 (opG (Tp.ops x.1)), AV.sl (List.length (x.2.1)) 1 (ratG (x.2.1)), AV.int .i64 (Prod.fst (x.2.2))]] ∧ 1 = 1 ∧ (Prod.fst (Prod.snd (x.2.2)) = (3 : Int) ∨ Prod.fst (Prod.snd (x.2.2)) = (4 : Int) ∨ Prod.fst (Prod.snd (x.2.2)) = (5 : Int) ∨ Prod.fst (Prod.snd (x.2.2)) = (6 : Int)) ∧ List.length (Prod.fst (Prod.snd (Prod.snd (x.2.2)))) < 2305843009213693952 ∧ List.length (Prod.snd (Prod.snd (Prod.snd (x.2.2)))) < 2305843009213693952) fun n_14 => .all (fun (r : List UInt8 × Int) => r = stp (Prod.fst (n_14.2.2)) (arR (Prod.fst (Prod.snd (n_14.2.2)))) (Prod.fst (Prod.snd (Prod.snd (n_14.2.2)))) (Prod.snd (Prod.snd (Prod.snd (n_14.2.2))))) fun n_15 => .ex (fun (x : Tp × List (List UInt8) × Int × Int × List UInt8 × List UInt8) => eqL [AV.ptr 0 0, AV.fn 27 [] [], AV.str h, AV.str h] [AV.ptr 0 0, AV.fn (opN (Prod.fst (Prod.snd (x.2.2)))) [] [], AV.str (Prod.fst (Prod.snd (Prod.snd (x.2.2)))), AV.str (Prod.snd (Prod.snd (Prod.snd (x.2.2))))] ∧ eqH [.box [AV.int .i64 (Tp.n n_14.1), AV.sl (List.length (Tp.ops n_14.1)) 4 (opG (Tp.ops n_14.1)), AV.sl (List.length (n_14.2.1)) 1 (ratG (n_14.2.1)), AV.int .i64 n_15.2]] [.box [AV.int .i64 (Tp.n x.1), AV.sl (List.length (Tp.ops x.1)) 4 (opG (Tp.ops x.1)), AV.sl (List.length (x.2.1)) 1 (ratG (x.2.1)), AV.int .i64 (Prod.fst (x.2.2))]] ∧ 1 = 1 ∧ (Prod.fst (Prod.snd (x.2.2)) = (3 : Int) ∨ Prod.fst (Prod.snd (x.2.2)) = (4 : Int) ∨ Prod.fst (Prod.snd (x.2.2)) = (5 : Int) ∨ Prod.fst (Prod.snd (x.2.2)) = (6 : Int)) ∧ List.length (Prod.fst (Prod.snd (Prod.snd (x.2.2)))) < 2305843009213693952 ∧ List.length (Prod.snd (Prod.snd (Prod.snd (x.2.2)))) < 2305843009213693952) fun n_16 => .all (fun (r : List UInt8 × Int) => r = stp (Prod.fst (n_16.2.2)) (arR (Prod.fst (Prod.snd (n_16.2.2)))) (Prod.fst (Prod.snd (Prod.snd (n_16.2.2)))) (Prod.snd (Prod.snd (Prod.snd (n_16.2.2))))) fun n_17 => .leaf (.ret [.str n_15.1, .str n_17.1] [.box [.int .i64 (Tp.n n_16.1), .sl (List.length (Tp.ops n_16.1)) 4 (opG (Tp.ops n_16.1)), .sl (List.length (n_16.2.1)) 1 (ratG (n_16.2.1)), .int .i64 n_17.2], .box [.str h], .box [.int .i64 i], .box [.int .i64 k], Blk.arrI .i64 (List.length (Prod.snd (Prod.snd (n.2.2)))) (dgF (Prod.snd (Prod.snd (n.2.2)))), Blk.arrI .i64 (List.length (Prod.snd (Prod.snd (n_8.2.2)))) (dgF (Prod.snd (Prod.snd (n_8.2.2)))), Blk.arrI .i64 (List.length (Prod.snd (Prod.snd (n_6.2.2)))) (dgF (Prod.snd (Prod.snd (n_6.2.2))))])) (.ex (fun (x : Tp × List (List UInt8) × Int × List UInt8 × List Int) => eqL [AV.ptr 0 0, AV.str h, AV.osl 1 1 0 2] [AV.ptr 0 0, AV.str (Prod.fst (Prod.snd (x.2.2))), AV.osl 1 1 0 (List.length (Prod.snd (Prod.snd (x.2.2))))] ∧ eqH [.box [AV.int .i64 n, AV.sl ops.length 4 (opG ops), AV.sl inp.length 1 (ratG inp), AV.int .i64 0], .arr 2 1 (zc 1 [AV.int .i64 i, AV.int .i64 k])] [.box [AV.int .i64 (Tp.n x.1), AV.sl (List.length (Tp.ops x.1)) 4 (opG (Tp.ops x.1)), AV.sl (List.length (x.2.1)) 1 (ratG (x.2.1)), AV.int .i64 (Prod.fst (x.2.2))], Blk.arrI .i64 (List.length (Prod.snd (Prod.snd (x.2.2)))) (dgF (Prod.snd (Prod.snd (x.2.2))))] ∧ 2 = 2 ∧ zf x.1 = 0 ∧ (↑(List.length (x.2.1)) : Int) = Tp.n x.1 ∧ allQ (x.2.1) ∧ errR (Prod.fst (Prod.snd (x.2.2))) = (0 : Int) ∧ (∀ (i : Int), i ∈ Prod.snd (Prod.snd (x.2.2)) → (0 : Int) ≤ i ∧ i < Tp.n x.1) ∧ List.length (Prod.snd (Prod.snd (x.2.2))) < 1099511627776) fun n => .all (fun (r : List UInt8 × Int) => r = stpA (Prod.fst (n.2.2)) (atT n.1 (n.2.1) (Prod.fst (Prod.snd (n.2.2))) (Prod.snd (Prod.snd (n.2.2))))) fun n_5 => .ex (fun (x : Tp × List (List UInt8) × Int × List UInt8 × List Int) => eqL [AV.ptr 0 0, AV.str h, AV.osl 1 1 0 1] [AV.ptr 0 0, AV.str (Prod.fst (Prod.snd (x.2.2))), AV.osl 1 1 0 (List.length (Prod.snd (Prod.snd (x.2.2))))] ∧ eqH [.box [AV.int .i64 (Tp.n n.1), AV.sl (List.length (Tp.ops n.1)) 4 (opG (Tp.ops n.1)), AV.sl (List.length (n.2.1)) 1 (ratG (n.2.1)), AV.int .i64 n_5.2], .arr 1 1 (zc 1 [AV.int .i64 i])] [.box [AV.int .i64 (Tp.n x.1), AV.sl (List.length (Tp.ops x.1)) 4 (opG (Tp.ops x.1)), AV.sl (List.length (x.2.1)) 1 (ratG (x.2.1)), AV.int .i64 (Prod.fst (x.2.2))], Blk.arrI .i64 (List.length (Prod.snd (Prod.snd (x.2.2)))) (dgF (Prod.snd (Prod.snd (x.2.2))))] ∧ 2 = 2 ∧ zf x.1 = 0 ∧ (↑(List.length (x.2.1)) : Int) = Tp.n x.1 ∧ allQ (x.2.1) ∧ errR (Prod.fst (Prod.snd (x.2.2))) = (0 : Int) ∧ (∀ (i : Int), i ∈ Prod.snd (Prod.snd (x.2.2)) → (0 : Int) ≤ i ∧ i < Tp.n x.1) ∧ List.length (Prod.snd (Prod.snd (x.2.2))) < 1099511627776) fun n_6 => .all (fun (r : List UInt8 × Int) => r = stpA (Prod.fst (n_6.2.2)) (atT n_6.1 (n_6.2.1) (Prod.fst (Prod.snd (n_6.2.2))) (Prod.snd (Prod.snd (n_6.2.2))))) fun n_7 => .ex (fun (x : Tp × List (List UInt8) × Int × List UInt8 × List Int) => eqL [AV.ptr 0 0, AV.str h, AV.osl 1 1 0 1] [AV.ptr 0 0, AV.str (Prod.fst (Prod.snd (x.2.2))), AV.osl 1 1 0 (List.length (Prod.snd (Prod.snd (x.2.2))))] ∧ eqH [.box [AV.int .i64 (Tp.n n_6.1), AV.sl (List.length (Tp.ops n_6.1)) 4 (opG (Tp.ops n_6.1)), AV.sl (List.length (n_6.2.1)) 1 (ratG (n_6.2.1)), AV.int .i64 n_7.2], .arr 1 1 (zc 1 [AV.int .i64 k])] [.box [AV.int .i64 (Tp.n x.1), AV.sl (List.length (Tp.ops x.1)) 4 (opG (Tp.ops x.1)), AV.sl (List.length (x.2.1)) 1 (ratG (x.2.1)), AV.int .i64 (Prod.fst (x.2.2))], Blk.arrI .i64 (List.length (Prod.snd (Prod.snd (x.2.2)))) (dgF (Prod.snd (Prod.snd (x.2.2))))] ∧ 2 = 2 ∧ zf x.1 = 0 ∧ (↑(List.length (x.2.1)) : Int) = Tp.n x.1 ∧ allQ (x.2.1) ∧ errR (Prod.fst (Prod.snd (x.2.2))) = (0 : Int) ∧ (∀ (i : Int), i ∈ Prod.snd (Prod.snd (x.2.2)) → (0 : Int) ≤ i ∧ i < Tp.n x.1) ∧ List.length (Prod.snd (Prod.snd (x.2.2))) < 1099511627776) fun n_8 => .all (fun (r : List UInt8 × Int) => r = stpA (Prod.fst (n_8.2.2)) (atT n_8.1 (n_8.2.1) (Prod.fst (Prod.snd (n_8.2.2))) (Prod.snd (Prod.snd (n_8.2.2))))) fun n_9 => .ex (fun (x : Tp × List (List UInt8) × Int × Int × List UInt8 × List UInt8) => eqL [AV.ptr 0 0, AV.fn 24 [] [], AV.str n_5.1, AV.str n_7.1] [AV.ptr 0 0, AV.fn (opN (Prod.fst (Prod.snd (x.2.2)))) [] [], AV.str (Prod.fst (Prod.snd (Prod.snd (x.2.2)))), AV.str (Prod.snd (Prod.snd (Prod.snd (x.2.2))))] ∧ eqH [.box [AV.int .i64 (Tp.n n_8.1), AV.sl (List.length (Tp.ops n_8.1)) 4 (opG (Tp.ops n_8.1)), AV.sl (List.length (n_8.2.1)) 1 (ratG (n_8.2.1)), AV.int .i64 n_9.2]] [.box [AV.int .i64 (Tp.n x.1), AV.sl (List.length (Tp.ops x.1)) 4 (opG (Tp.ops x.1)), AV.sl (List.length (x.2.1)) 1 (ratG (x.2.1)), AV.int .i64 (Prod.fst (x.2.2))]] ∧ 1 = 1 ∧ (Prod.fst (Prod.snd (x.2.2)) = (3 : Int) ∨ Prod.fst (Prod.snd (x.2.2)) = (4 : Int) ∨ Prod.fst (Prod.snd (x.2.2)) = (5 : Int) ∨ Prod.fst (Prod.snd (x.2.2)) = (6 : Int)) ∧ List.length (Prod.fst (Prod.snd (Prod.snd (x.2.2)))) < 2305843009213693952 ∧ List.length (Prod.snd (Prod.snd (Prod.snd (x.2.2)))) < 2305843009213693952) fun n_10 => .all (fun (r : List UInt8 × Int) => r = stp (Prod.fst (n_10.2.2)) (arR (Prod.fst (Prod.snd (n_10.2.2)))) (Prod.fst (Prod.snd (Prod.snd (n_10.2.2)))) (Prod.snd (Prod.snd (Prod.snd (n_10.2.2))))) fun n_11 => .ex (fun (x : Tp × List (List UInt8) × Int × Int × List UInt8 × List UInt8) => eqL [AV.ptr 0 0, AV.fn 24 [] [], AV.str n_11.1, AV.str n_9.1] [AV.ptr 0 0, AV.fn (opN (Prod.fst (Prod.snd (x.2.2)))) [] [], AV.str (Prod.fst (Prod.snd (Prod.snd (x.2.2)))), AV.str (Prod.snd (Prod.snd (Prod.snd (x.2.2))))] ∧ eqH [.box [AV.int .i64 (Tp.n n_10.1), AV.sl (List.length (Tp.ops n_10.1)) 4 (opG (Tp.ops n_10.1)), AV.sl (List.length (n_10.2.1)) 1 (ratG (n_10.2.1)), AV.int .i64 n_11.2]] [.box [AV.int .i64 (Tp.n x.1), AV.sl (List.length (Tp.ops x.1)) 4 (opG (Tp.ops x.1)), AV.sl (List.length (x.2.1)) 1 (ratG (x.2.1)), AV.int .i64 (Prod.fst (x.2.2))]] ∧ 1 = 1 ∧ (Prod.fst (Prod.snd (x.2.2)) = (3 : Int) ∨ Prod.fst (Prod.snd (x.2.2)) = (4 : Int) ∨ Prod.fst (Prod.snd (x.2.2)) = (5 : Int) ∨ Prod.fst (Prod.snd (x.2.2)) = (6 : Int)) ∧ List.length (Prod.fst (Prod.snd (Prod.snd (x.2.2)))) < 2305843009213693952 ∧ List.length (Prod.snd (Prod.snd (Prod.snd (x.2.2)))) < 2305843009213693952) fun n_12 => .all (fun (r : List UInt8 × Int) => r = stp (Prod.fst (n_12.2.2)) (arR (Prod.fst (Prod.snd (n_12.2.2)))) (Prod.fst (Prod.snd (Prod.snd (n_12.2.2)))) (Prod.snd (Prod.snd (Prod.snd (n_12.2.2))))) fun n_13 => .ex (fun (x : Tp × List (List UInt8) × Int × Int × List UInt8 × List UInt8) => eqL [AV.ptr 0 0, AV.fn 23 [] [], AV.str n_13.1, AV.str v] [AV.ptr 0 0, AV.fn (opN (Prod.fst (Prod.snd (x.2.2)))) [] [], AV.str (Prod.fst (Prod.snd (Prod.snd (x.2.2)))), AV.str (Prod.snd (Prod.snd (Prod.snd (x.2.2))))] ∧ eqH [.box [AV.int .i64 (Tp.n n_12.1), AV.sl (List.length (Tp.ops n_12.1)) 4 (opG (Tp.ops n_12.1)), AV.sl (List.length (n_12.2.1)) 1 (ratG (n_12.2.1)), AV.int .i64 n_13.2]] [.box [AV.int .i64 (Tp.n x.1), AV.sl (List.length (Tp.ops x.1)) 4 (opG (Tp.ops x.1)), AV.sl (List.length (x.2.1)) 1 (ratG (x.2.1)), AV.int .i64 (Prod.fst (x.2.2))]] ∧ 1 = 1 ∧ (Prod.fst (Prod.snd (x.2.2)) = (3 : Int) ∨ Prod.fst (Prod.snd (x.2.2)) = (4 : Int) ∨ Prod.fst (Prod.snd (x.2.2)) = (5 : Int) ∨ Prod.fst (Prod.snd (x.2.2)) = (6 : Int)) ∧ List.length (Prod.fst (Prod.snd (Prod.snd (x.2.2)))) < 2305843009213693952 ∧ List.length (Prod.snd (Prod.snd (Prod.snd (x.2.2)))) < 2305843009213693952) fun n_14 => .all (fun (r : List UInt8 × Int) => r = stp (Prod.fst (n_14.2.2)) (arR (Prod.fst (Prod.snd (n_14.2.2)))) (Prod.fst (Prod.snd (Prod.snd (n_14.2.2)))) (Prod.snd (Prod.snd (Prod.snd (n_14.2.2))))) fun n_15 => .ex (fun (x : Tp × List (List UInt8) × Int × Int × List UInt8 × List UInt8) => eqL [AV.ptr 0 0, AV.fn 27 [] [], AV.str h, AV.str h] [AV.ptr 0 0, AV.fn (opN (Prod.fst (Prod.snd (x.2.2)))) [] [], AV.str (Prod.fst (Prod.snd (Prod.snd (x.2.2)))), AV.str (Prod.snd (Prod.snd (Prod.snd (x.2.2))))] ∧ eqH [.box [AV.int .i64 (Tp.n n_14.1), AV.sl (List.length (Tp.ops n_14.1)) 4 (opG (Tp.ops n_14.1)), AV.sl (List.length (n_14.2.1)) 1 (ratG (n_14.2.1)), AV.int .i64 n_15.2]] [.box [AV.int .i64 (Tp.n x.1), AV.sl (List.length (Tp.ops x.1)) 4 (opG (Tp.ops x.1)), AV.sl (List.length (x.2.1)) 1 (ratG (x.2.1)), AV.int .i64 (Prod.fst (x.2.2))]] ∧ 1 = 1 ∧ (Prod.fst (Prod.snd (x.2.2)) = (3 : Int) ∨ Prod.fst (Prod.snd (x.2.2)) = (4 : Int) ∨ Prod.fst (Prod.snd (x.2.2)) = (5 : Int) ∨ Prod.fst (Prod.snd (x.2.2)) = (6 : Int)) ∧ List.length (Prod.fst (Prod.snd (Prod.snd (x.2.2)))) < 2305843009213693952 ∧ List.length (Prod.snd (Prod.snd (Prod.snd (x.2.2)))) < 2305843009213693952) fun n_16 => .all (fun (r : List UInt8 × Int) => r = stp (Prod.fst (n_16.2.2)) (arR (Prod.fst (Prod.snd (n_16.2.2)))) (Prod.fst (Prod.snd (Prod.snd (n_16.2.2)))) (Prod.snd (Prod.snd (Prod.snd (n_16.2.2))))) fun n_17 => .leaf (.ret [.str n_15.1, .str n_17.1] [.box [.int .i64 (Tp.n n_16.1), .sl (List.length (Tp.ops n_16.1)) 4 (opG (Tp.ops n_16.1)), .sl (List.length (n_16.2.1)) 1 (ratG (n_16.2.1)), .int .i64 n_17.2], .box [.str h], .box [.int .i64 i], .box [.int .i64 k], Blk.arrI .i64 (List.length (Prod.snd (Prod.snd (n.2.2)))) (dgF (Prod.snd (Prod.snd (n.2.2)))), Blk.arrI .i64 (List.length (Prod.snd (Prod.snd (n_8.2.2)))) (dgF (Prod.snd (Prod.snd (n_8.2.2)))), Blk.arrI .i64 (List.length (Prod.snd (Prod.snd (n_6.2.2)))) (dgF (Prod.snd (Prod.snd (n_6.2.2))))]))))) (.all (fun (x : Bool) => True) fun n_2 => .ite n_2 (.all (fun (x : Bool) => True) fun n_3 => .ite n_3 (.all (fun (x : Bool) => True) fun n_4 => .ite n_4 (.ex (fun (x : Tp × List (List UInt8) × Int × List UInt8 × List Int) => eqL [AV.ptr 0 0, AV.str h, AV.osl 1 1 0 2] [AV.ptr 0 0, AV.str (Prod.fst (Prod.snd (x.2.2))), AV.osl 1 1 0 (List.length (Prod.snd (Prod.snd (x.2.2))))] ∧ eqH [.box [AV.int .i64 n, AV.sl ops.length 4 (opG ops), AV.sl inp.length 1 (ratG inp), AV.int .i64 0], .arr 2 1 (zc 1 [AV.int .i64 i, AV.int .i64 k])] [.box [AV.int .i64 (Tp.n x.1), AV.sl (List.length (Tp.ops x.1)) 4 (opG (Tp.ops x.1)), AV.sl (List.length (x.2.1)) 1 (ratG (x.2.1)), AV.int .i64 (Prod.fst (x.2.2))], Blk.arrI .i64 (List.length (Prod.snd (Prod.snd (x.2.2)))) (dgF (Prod.snd (Prod.snd (x.2.2))))] ∧ 2 = 2 ∧ zf x.1 = 0 ∧ (↑(List.length (x.2.1)) : Int) = Tp.n x.1 ∧ allQ (x.2.1) ∧ errR (Prod.fst (Prod.snd (x.2.2))) = (0 : Int) ∧ (∀ (i : Int), i ∈ Prod.snd (Prod.snd (x.2.2)) → (0 : Int) ≤ i ∧ i < Tp.n x.1) ∧ List.length (Prod.snd (Prod.snd (x.2.2))) < 1099511627776) fun n => .all (fun (r : List UInt8 × Int) => r = stpA (Prod.fst (n.2.2)) (atT n.1 (n.2.1) (Prod.fst (Prod.snd (n.2.2))) (Prod.snd (Prod.snd (n.2.2))))) fun n_5 => .all (fun (x : Bool) => True) fun n_6 => .ite n_6 (.ex (fun (x : Tp × List (List UInt8) × Int × List UInt8 × List Int) => eqL [AV.ptr 0 0, AV.str h, AV.osl 1 1 0 1] [AV.ptr 0 0, AV.str (Prod.fst (Prod.snd (x.2.2))), AV.osl 1 1 0 (List.length (Prod.snd (Prod.snd (x.2.2))))] ∧ eqH [.box [AV.int .i64 (Tp.n n.1), AV.sl (List.length (Tp.ops n.1)) 4 (opG (Tp.ops n.1)), AV.sl (List.length (n.2.1)) 1 (ratG (n.2.1)), AV.int .i64 n_5.2], .arr 1 1 (zc 1 [AV.int .i64 i])] [.box [AV.int .i64 (Tp.n x.1), AV.sl (List.length (Tp.ops x.1)) 4 (opG (Tp.ops x.1)), AV.sl (List.length (x.2.1)) 1 (ratG (x.2.1)), AV.int .i64 (Prod.fst (x.2.2))], Blk.arrI .i64 (List.length (Prod.snd (Prod.snd (x.2.2)))) (dgF (Prod.snd (Prod.snd (x.2.2))))] ∧ 2 = 2 ∧ zf x.1 = 0 ∧ (↑(List.length (x.2.1)) : Int) = Tp.n x.1 ∧ allQ (x.2.1) ∧ errR (Prod.fst (Prod.snd (x.2.2))) = (0 : Int) ∧ (∀ (i : Int), i ∈ Prod.snd (Prod.snd (x.2.2)) → (0 : Int) ≤ i ∧ i < Tp.n x.1) ∧ List.length (Prod.snd (Prod.snd (x.2.2))) < 1099511627776) fun n_7 => .all (fun (r : List UInt8 × Int) => r = stpA (Prod.fst (n_7.2.2)) (atT n_7.1 (n_7.2.1) (Prod.fst (Prod.snd (n_7.2.2))) (Prod.snd (Prod.snd (n_7.2.2))))) fun n_8 => .ex (fun (x : Tp × List (List UInt8) × Int × List UInt8 × List Int) => eqL [AV.ptr 0 0, AV.str h, AV.osl 1 1 0 1] [AV.ptr 0 0, AV.str (Prod.fst (Prod.snd (x.2.2))), AV.osl 1 1 0 (List.length (Prod.snd (Prod.snd (x.2.2))))] ∧ eqH [.box [AV.int .i64 (Tp.n n_7.1), AV.sl (List.length (Tp.ops n_7.1)) 4 (opG (Tp.ops n_7.1)), AV.sl (List.length (n_7.2.1)) 1 (ratG (n_7.2.1)), AV.int .i64 n_8.2], .arr 1 1 (zc 1 [AV.int .i64 k])] [.box [AV.int .i64 (Tp.n x.1), AV.sl (List.length (Tp.ops x.1)) 4 (opG (Tp.ops x.1)), AV.sl (List.length (x.2.1)) 1 (ratG (x.2.1)), AV.int .i64 (Prod.fst (x.2.2))], Blk.arrI .i64 (List.length (Prod.snd (Prod.snd (x.2.2)))) (dgF (Prod.snd (Prod.snd (x.2.2))))] ∧ 2 = 2 ∧ zf x.1 = 0 ∧ (↑(List.length (x.2.1)) : Int) = Tp.n x.1 ∧ allQ (x.2.1) ∧ errR (Prod.fst (Prod.snd (x.2.2))) = (0 : Int) ∧ (∀ (i : Int), i ∈ Prod.snd (Prod.snd (x.2.2)) → (0 : Int) ≤ i ∧ i < Tp.n x.1) ∧ List.length (Prod.snd (Prod.snd (x.2.2))) < 1099511627776) fun n_9 => .all (fun (r : List UInt8 × Int) => r = stpA (Prod.fst (n_9.2.2)) (atT n_9.1 (n_9.2.1) (Prod.fst (Prod.snd (n_9.2.2))) (Prod.snd (Prod.snd (n_9.2.2))))) fun n_10 => .ex (fun (x : Tp × List (List UInt8) × Int × Int × List UInt8 × List UInt8) => eqL [AV.ptr 0 0, AV.fn 24 [] [], AV.str n_5.1, AV.str n_8.1] [AV.ptr 0 0, AV.fn (opN (Prod.fst (Prod.snd (x.2.2)))) [] [], AV.str (Prod.fst (Prod.snd (Prod.snd (x.2.2)))), AV.str (Prod.snd (Prod.snd (Prod.snd (x.2.2))))] ∧ eqH [.box [AV.int .i64 (Tp.n n_9.1), AV.sl (List.length (Tp.ops n_9.1)) 4 (opG (Tp.ops n_9.1)), AV.sl (List.length (n_9.2.1)) 1 (ratG (n_9.2.1)), AV.int .i64 n_10.2]] [.box [AV.int .i64 (Tp.n x.1), AV.sl (List.length (Tp.ops x.1)) 4 (opG (Tp.ops x.1)), AV.sl (List.length (x.2.1)) 1 (ratG (x.2.1)), AV.int .i64 (Prod.fst (x.2.2))]] ∧ 1 = 1 ∧ (Prod.fst (Prod.snd (x.2.2)) = (3 : Int) ∨ Prod.fst (Prod.snd (x.2.2)) = (4 : Int) ∨ Prod.fst (Prod.snd (x.2.2)) = (5 : Int) ∨ Prod.fst (Prod.snd (x.2.2)) = (6 : Int)) ∧ List.length (Prod.fst (Prod.snd (Prod.snd (x.2.2)))) < 2305843009213693952 ∧ List.length (Prod.snd (Prod.snd (Prod.snd (x.2.2)))) < 2305843009213693952) fun n_11 => .all (fun (r : List UInt8 × Int) => r = stp (Prod.fst (n_11.2.2)) (arR (Prod.fst (Prod.snd (n_11.2.2)))) (Prod.fst (Prod.snd (Prod.snd (n_11.2.2)))) (Prod.snd (Prod.snd (Prod.snd (n_11.2.2))))) fun n_12 => .ex (fun (x : Tp × List (List UInt8) × Int × Int × List UInt8 × List UInt8) => eqL [AV.ptr 0 0, AV.fn 24 [] [], AV.str n_12.1, AV.str n_10.1] [AV.ptr 0 0, AV.fn (opN (Prod.fst (Prod.snd (x.2.2)))) [] [], AV.str (Prod.fst (Prod.snd (Prod.snd (x.2.2)))), AV.str (Prod.snd (Prod.snd (Prod.snd (x.2.2))))] ∧ eqH [.box [AV.int .i64 (Tp.n n_11.1), AV.sl (List.length (Tp.ops n_11.1)) 4 (opG (Tp.ops n_11.1)), AV.sl (List.length (n_11.2.1)) 1 (ratG (n_11.2.1)), AV.int .i64 n_12.2]] [.box [AV.int .i64 (Tp.n x.1), AV.sl (List.length (Tp.ops x.1)) 4 (opG (Tp.ops x.1)), AV.sl (List.length (x.2.1)) 1 (ratG (x.2.1)), AV.int .i64 (Prod.fst (x.2.2))]] ∧ 1 = 1 ∧ (Prod.fst (Prod.snd (x.2.2)) = (3 : Int) ∨ Prod.fst (Prod.snd (x.2.2)) = (4 : Int) ∨ Prod.fst (Prod.snd (x.2.2)) = (5 : Int) ∨ Prod.fst (Prod.snd (x.2.2)) = (6 : Int)) ∧ List.length (Prod.fst (Prod.snd (Prod.snd (x.2.2)))) < 2305843009213693952 ∧ List.length (Prod.snd (Prod.snd (Prod.snd (x.2.2)))) < 2305843009213693952) fun n_13 => .all (fun (r : List UInt8 × Int) => r = stp (Prod.fst (n_13.2.2)) (arR (Prod.fst (Prod.snd (n_13.2.2)))) (Prod.fst (Prod.snd (Prod.snd (n_13.2.2)))) (Prod.snd (Prod.snd (Prod.snd (n_13.2.2))))) fun n_14 => .ex (fun (x : Tp × List (List UInt8) × Int × Int × List UInt8 × List UInt8) => eqL [AV.ptr 0 0, AV.fn 23 [] [], AV.str n_14.1, AV.str v] [AV.ptr 0 0, AV.fn (opN (Prod.fst (Prod.snd (x.2.2)))) [] [], AV.str (Prod.fst (Prod.snd (Prod.snd (x.2.2)))), AV.str (Prod.snd (Prod.snd (Prod.snd (x.2.2))))] ∧ eqH [.box [AV.int .i64 (Tp.n n_13.1), AV.sl (List.length (Tp.ops n_13.1)) 4 (opG (Tp.ops n_13.1)), AV.sl (List.length (n_13.2.1)) 1 (ratG (n_13.2.1)), AV.int .i64 n_14.2]] [.box [AV.int .i64 (Tp.n x.1), AV.sl (List.length (Tp.ops x.1)) 4 (opG (Tp.ops x.1)), AV.sl (List.length (x.2.1)) 1 (ratG (x.2.1)), AV.int .i64 (Prod.fst (x.2.2))]] ∧ 1 = 1 ∧ (Prod.fst (Prod.snd (x.2.2)) = (3 : Int) ∨ Prod.fst (Prod.snd (x.2.2)) = (4 : Int) ∨ Prod.fst (Prod.snd (x.2.2)) = (5 : Int) ∨ Prod.fst (Prod.snd (x.2.2)) = (6 : Int)) ∧ List.length (Prod.fst (Prod.snd (Prod.snd (x.2.2)))) < 2305843009213693952 ∧ List.length (Prod.snd (Prod.snd (Prod.snd (x.2.2)))) < 2305843009213693952) fun n_15 => .all (fun (r : List UInt8 × Int) => r = stp (Prod.fst (n_15.2.2)) (arR (Prod.fst (Prod.snd (n_15.2.2)))) (Prod.fst (Prod.snd (Prod.snd (n_15.2.2)))) (Prod.snd (Prod.snd (Prod.snd (n_15.2.2))))) fun n_16 => .ex (fun (x : Tp × List (List UInt8) × Int × Int × List UInt8 × List UInt8) => eqL [AV.ptr 0 0, AV.fn 27 [] [], AV.str h, AV.str h] [AV.ptr 0 0, AV.fn (opN (Prod.fst (Prod.snd (x.2.2)))) [] [], AV.str (Prod.fst (Prod.snd (Prod.snd (x.2.2)))), AV.str (Prod.snd (Prod.snd (Prod.snd (x.2.2))))] ∧ eqH [.box [AV.int .i64 (Tp.n n_15.1), AV.sl (List.length (Tp.ops n_15.1)) 4 (opG (Tp.ops n_15.1)), AV.sl (List.length (n_15.2.1)) 1 (ratG (n_15.2.1)), AV.int .i64 n_16.2]] [.box [AV.int .i64 (Tp.n x.1), AV.sl (List.length (Tp.ops x.1)) 4 (opG (Tp.ops x.1)), AV.sl (List.length (x.2.1)) 1 (ratG (x.2.1)), AV.int .i64 (Prod.fst (x.2.2))]] ∧ 1 = 1 ∧ (Prod.fst (Prod.snd (x.2.2)) = (3 : Int) ∨ Prod.fst (Prod.snd (x.2.2)) = (4 : Int) ∨ Prod.fst (Prod.snd (x.2.2)) = (5 : Int) ∨ Prod.fst (Prod.snd (x.2.2)) = (6 : Int)) ∧ List.length (Prod.fst (Prod.snd (Prod.snd (x.2.2)))) < 2305843009213693952 ∧ List.length (Prod.snd (Prod.snd (Prod.snd (x.2.2)))) < 2305843009213693952) fun n_17 => .all (fun (r : List UInt8 × Int) => r = stp (Prod.fst (n_17.2.2)) (arR (Prod.fst (Prod.snd (n_17.2.2)))) (Prod.fst (Prod.snd (Prod.snd (n_17.2.2)))) (Prod.snd (Prod.snd (Prod.snd (n_17.2.2))))) fun n_18 => .leaf (.ret [.str n_16.1, .str n_18.1] [.box [.int .i64 (Tp.n n_17.1), .sl (List.length (Tp.ops n_17.1)) 4 (opG (Tp.ops n_17.1)), .sl (List.length (n_17.2.1)) 1 (ratG (n_17.2.1)), .int .i64 n_18.2], .box [.str h], .box [.int .i64 i], .box [.int .i64 k], Blk.arrI .i64 (List.length (Prod.snd (Prod.snd (n_7.2.2)))) (dgF (Prod.snd (Prod.snd (n_7.2.2)))), Blk.arrI .i64 (List.length (Prod.snd (Prod.snd (n.2.2)))) (dgF (Prod.snd (Prod.snd (n.2.2)))), Blk.arrI .i64 (List.length (Prod.snd (Prod.snd (n_9.2.2)))) (dgF (Prod.snd (Prod.snd (n_9.2.2))))])) (.ex (fun (x : Tp × List (List UInt8) × Int × List UInt8 × List Int) => eqL [AV.ptr 0 0, AV.str h, AV.osl 1 1 0 1] [AV.ptr 0 0, AV.str (Prod.fst (Prod.snd (x.2.2))), AV.osl 1 1 0 (List.length (Prod.snd (Prod.snd (x.2.2))))] ∧ eqH [.box [AV.int .i64 (Tp.n n.1), AV.sl (List.length (Tp.ops n.1)) 4 (opG (Tp.ops n.1)), AV.sl (List.length (n.2.1)) 1 (ratG (n.2.1)), AV.int .i64 n_5.2], .arr 1 1 (zc 1 [AV.int .i64 i])] [.box [AV.int .i64 (Tp.n x.1), AV.sl (List.length (Tp.ops x.1)) 4 (opG (Tp.ops x.1)), AV.sl (List.length (x.2.1)) 1 (ratG (x.2.1)), AV.int .i64 (Prod.fst (x.2.2))], Blk.arrI .i64 (List.length (Prod.snd (Prod.snd (x.2.2)))) (dgF (Prod.snd (Prod.snd (x.2.2))))] ∧ 2 = 2 ∧ zf x.1 = 0 ∧ (↑(List.length (x.2.1)) : Int) = Tp.n x.1 ∧ allQ (x.2.1) ∧ errR (Prod.fst (Prod.snd (x.2.2))) = (0 : Int) ∧ (∀ (i : Int), i ∈ Prod.snd (Prod.snd (x.2.2)) → (0 : Int) ≤ i ∧ i < Tp.n x.1) ∧ List.length (Prod.snd (Prod.snd (x.2.2))) < 1099511627776) fun n_7 => .all (fun (r : List UInt8 × Int) => r = stpA (Prod.fst (n_7.2.2)) (atT n_7.1 (n_7.2.1) (Prod.fst (Prod.snd (n_7.2.2))) (Prod.snd (Prod.snd (n_7.2.2))))) fun n_8 => .ex (fun (x : Tp × List (List UInt8) × Int × List UInt8 × List Int) => eqL [AV.ptr 0 0, AV.str h, AV.osl 1 1 0 1] [AV.ptr 0 0, AV.str (Prod.fst (Prod.snd (x.2.2))), AV.osl 1 1 0 (List.length (Prod.snd (Prod.snd (x.2.2))))] ∧ eqH [.box [AV.int .i64 (Tp.n n_7.1), AV.sl (List.length (Tp.ops n_7.1)) 4 (opG (Tp.ops n_7.1)), AV.sl (List.length (n_7.2.1)) 1 (ratG (n_7.2.1)), AV.int .i64 n_8.2], .arr 1 1 (zc 1 [AV.int .i64 k])] [.box [AV.int .i64 (Tp.n x.1), AV.sl (List.length (Tp.ops x.1)) 4 (opG (Tp.ops x.1)), AV.sl (List.length (x.2.1)) 1 (ratG (x.2.1)), AV.int .i64 (Prod.fst (x.2.2))], Blk.arrI .i64 (List.length (Prod.snd (Prod.snd (x.2.2)))) (dgF (Prod.snd (Prod.snd (x.2.2))))] ∧ 2 = 2 ∧ zf x.1 = 0 ∧ (↑(List.length (x.2.1)) : Int) = Tp.n x.1 ∧ allQ (x.2.1) ∧ errR (Prod.fst (Prod.snd (x.2.2))) = (0 : Int) ∧ (∀ (i : Int), i ∈ Prod.snd (Prod.snd (x.2.2)) → (0 : Int) ≤ i ∧ i < Tp.n x.1) ∧ List.length (Prod.snd (Prod.snd (x.2.2))) < 1099511627776) fun n_9 => .all (fun (r : List UInt8 × Int) => r = stpA (Prod.fst (n_9.2.2)) (atT n_9.1 (n_9.2.1) (Prod.fst (Prod.snd (n_9.2.2))) (Prod.snd (Prod.snd (n_9.2.2))))) fun n_10 => .ex (fun (x : Tp × List (List UInt8) × Int × Int × List UInt8 × List UInt8) => eqL [AV.ptr 0 0, AV.fn 24 [] [], AV.str n_5.1, AV.str n_8.1] [AV.ptr 0 0, AV.fn (opN (Prod.fst (Prod.snd (x.2.2)))) [] [], AV.str (Prod.fst (Prod.snd (Prod.snd (x.2.2)))), AV.str (Prod.snd (Prod.snd (Prod.snd (x.2.2))))] ∧ eqH [.box [AV.int .i64 (Tp.n n_9.1), AV.sl (List.length (Tp.ops n_9.1)) 4 (opG (Tp.ops n_9.1)), AV.sl (List.length (n_9.2.1)) 1 (ratG (n_9.2.1)), AV.int .i64 n_10.2]] [.box [AV.int .i64 (Tp.n x.1), AV.sl (List.length (Tp.ops x.1)) 4 (opG (Tp.ops x.1)), AV.sl (List.length (x.2.1)) 1 (ratG (x.2.1)), AV.int .i64 (Prod.fst (x.2.2))]] ∧ 1 = 1 ∧ (Prod.fst (Prod.snd (x.2.2)) = (3 : Int) ∨ Prod.fst (Prod.snd (x.2.2)) = (4 : Int) ∨ Prod.fst (Prod.snd (x.2.2)) = (5 : Int) ∨ Prod.fst (Prod.snd (x.2.2)) = (6 : Int)) ∧ List.length (Prod.fst (Prod.snd (Prod.snd (x.2.2)))) < 2305843009213693952 ∧ List.length (Prod.snd (Prod.snd (Prod.snd (x.2.2)))) < 2305843009213693952) fun n_11 => .all (fun (r : List UInt8 × Int) => r = stp (Prod.fst (n_11.2.2)) (arR (Prod.fst (Prod.snd (n_11.2.2)))) (Prod.fst (Prod.snd (Prod.snd (n_11.2.2)))) (Prod.snd (Prod.snd (Prod.snd (n_11.2.2))))) fun n_12 => .ex (fun (x : Tp × List (List UInt8) × Int × Int × List UInt8 × List UInt8) => eqL [AV.ptr 0 0, AV.fn 24 [] [], AV.str n_12.1, AV.str n_10.1] [AV.ptr 0 0, AV.fn (opN (Prod.fst (Prod.snd (x.2.2)))) [] [], AV.str (Prod.fst (Prod.snd (Prod.snd (x.2.2)))), AV.str (Prod.snd (Prod.snd (Prod.snd (x.2.2))))] ∧ eqH [.box [AV.int .i64 (Tp.n n_11.1), AV.sl (List.length (Tp.ops n_11.1)) 4 (opG (Tp.ops n_11.1)), AV.sl (List.length (n_11.2.1)) 1 (ratG (n_11.2.1)), AV.int .i64 n_12.2]] [.box [AV.int .i64 (Tp.n x.1), AV.sl (List.length (Tp.ops x.1)) 4 (opG (Tp.ops x.1)), AV.sl (List.length (x.2.1)) 1 (ratG (x.2.1)), AV.int .i64 (Prod.fst (x.2.2))]] ∧ 1 = 1 ∧ (Prod.fst (Prod.snd (x.2.2)) = (3 : Int) ∨ Prod.fst (Prod.snd (x.2.2)) = (4 : Int) ∨ Prod.fst (Prod.snd (x.2.2)) = (5 : Int) ∨ Prod.fst (Prod.snd (x.2.2)) = (6 : Int)) ∧ List.length (Prod.fst (Prod.snd (Prod.snd (x.2.2)))) < 2305843009213693952 ∧ List.length (Prod.snd (Prod.snd (Prod.snd (x.2.2)))) < 2305843009213693952) fun n_13 => .all (fun (r : List UInt8 × Int) => r = stp (Prod.fst (n_13.2.2)) (arR (Prod.fst (Prod.snd (n_13.2.2)))) (Prod.fst (Prod.snd (Prod.snd (n_13.2.2)))) (Prod.snd (Prod.snd (Prod.snd (n_13.2.2))))) fun n_14 => .ex (fun (x : Tp × List (List UInt8) × Int × Int × List UInt8 × List UInt8) => eqL [AV.ptr 0 0, AV.fn 23 [] [], AV.str n_14.1, AV.str v] [AV.ptr 0 0, AV.fn (opN (Prod.fst (Prod.snd (x.2.2)))) [] [], AV.str (Prod.fst (Prod.snd (Prod.snd (x.2.2)))), AV.str (Prod.snd (Prod.snd (Prod.snd (x.2.2))))] ∧ eqH [.box [AV.int .i64 (Tp.n n_13.1), AV.sl (List.length (Tp.ops n_13.1)) 4 (opG (Tp.ops n_13.1)), AV.sl (List.length (n_13.2.1)) 1 (ratG (n_13.2.1)), AV.int .i64 n_14.2]] [.box [AV.int .i64 (Tp.n x.1), AV.sl (List.length (Tp.ops x.1)) 4 (opG (Tp.ops x.1)), AV.sl (List.length (x.2.1)) 1 (ratG (x.2.1)), AV.int .i64 (Prod.fst (x.2.2))]] ∧ 1 = 1 ∧ (Prod.fst (Prod.snd (x.2.2)) = (3 : Int) ∨ Prod.fst (Prod.snd (x.2.2)) = (4 : Int) ∨ Prod.fst (Prod.snd (x.2.2)) = (5 : Int) ∨ Prod.fst (Prod.snd (x.2.2)) = (6 : Int)) ∧ List.length (Prod.fst (Prod.snd (Prod.snd (x.2.2)))) < 2305843009213693952 ∧ List.length (Prod.snd (Prod.snd (Prod.snd (x.2.2)))) < 2305843009213693952) fun n_15 => .all (fun (r : List UInt8 × Int) => r = stp (Prod.fst (n_15.2.2)) (arR (Prod.fst (Prod.snd (n_15.2.2)))) (Prod.fst (Prod.snd (Prod.snd (n_15.2.2)))) (Prod.snd (Prod.snd (Prod.snd (n_15.2.2))))) fun n_16 => .ex (fun (x : Tp × List (List UInt8) × Int × Int × List UInt8 × List UInt8) => eqL [AV.ptr 0 0, AV.fn 27 [] [], AV.str h, AV.str h] [AV.ptr 0 0, AV.fn (opN (Prod.fst (Prod.snd (x.2.2)))) [] [], AV.str (Prod.fst (Prod.snd (Prod.snd (x.2.2)))), AV.str (Prod.snd (Prod.snd (Prod.snd (x.2.2))))] ∧ eqH [.box [AV.int .i64 (Tp.n n_15.1), AV.sl (List.length (Tp.ops n_15.1)) 4 (opG (Tp.ops n_15.1)), AV.sl (List.length (n_15.2.1)) 1 (ratG (n_15.2.1)), AV.int .i64 n_16.2]] [.box [AV.int .i64 (Tp.n x.1), AV.sl (List.length (Tp.ops x.1)) 4 (opG (Tp.ops x.1)), AV.sl (List.length (x.2.1)) 1 (ratG (x.2.1)), AV.int .i64 (Prod.fst (x.2.2))]] ∧ 1 = 1 ∧ (Prod.fst (Prod.snd (x.2.2)) = (3 : Int) ∨ Prod.fst (Prod.snd (x.2.2)) = (4 : Int) ∨ Prod.fst (Prod.snd (x.2.2)) = (5 : Int) ∨ Prod.fst (Prod.snd (x.2.2)) = (6 : Int)) ∧ List.length (Prod.fst (Prod.snd (Prod.snd (x.2.2)))) < 2305843009213693952 ∧ List.length (Prod.snd (Prod.snd (Prod.snd (x.2.2)))) < 2305843009213693952) fun n_17 => .all (fun (r : List UInt8 × Int) => r = stp (Prod.fst (n_17.2.2)) (arR (Prod.fst (Prod.snd (n_17.2.2)))) (Prod.fst (Prod.snd (Prod.snd (n_17.2.2)))) (Prod.snd (Prod.snd (Prod.snd (n_17.2.2))))) fun n_18 => .leaf (.ret [.str n_16.1, .str n_18.1] [.box [.int .i64 (Tp.n n_17.1), .sl (List.length (Tp.ops n_17.1)) 4 (opG (Tp.ops n_17.1)), .sl (List.length (n_17.2.1)) 1 (ratG (n_17.2.1)), .int .i64 n_18.2], .box [.str h], .box [.int .i64 i], .box [.int .i64 k], Blk.arrI .i64 (List.length (Prod.snd (Prod.snd (n_7.2.2)))) (dgF (Prod.snd (Prod.snd (n_7.2.2)))), Blk.arrI .i64 (List.length (Prod.snd (Prod.snd (n.2.2)))) (dgF (Prod.snd (Prod.snd (n.2.2)))), Blk.arrI .i64 (List.length (Prod.snd (Prod.snd (n_9.2.2)))) (dgF (Prod.snd (Prod.snd (n_9.2.2))))]))) (.ex (fun (x : Tp × List (List UInt8) × Int × List UInt8 × List Int) => eqL [AV.ptr 0 0, AV.str h, AV.osl 1 1 0 2] [AV.ptr 0 0, AV.str (Prod.fst (Prod.snd (x.2.2))), AV.osl 1 1 0 (List.length (Prod.snd (Prod.snd (x.2.2))))] ∧ eqH [.box [AV.int .i64 n, AV.sl ops.length 4 (opG ops), AV.sl inp.length 1 (ratG inp), AV.int .i64 0], .arr 2 1 (zc 1 [AV.int .i64 i, AV.int .i64 k])] [.box [AV.int .i64 (Tp.n x.1), AV.sl (List.length (Tp.ops x.1)) 4 (opG (Tp.ops x.1)), AV.sl (List.length (x.2.1)) 1 (ratG (x.2.1)), AV.int .i64 (Prod.fst (x.2.2))], Blk.arrI .i64 (List.length (Prod.snd (Prod.snd (x.2.2)))) (dgF (Prod.snd (Prod.snd (x.2.2))))] ∧ 2 = 2 ∧ zf x.1 = 0 ∧ (↑(List.length (x.2.1)) : Int) = Tp.n x.1 ∧ allQ (x.2.1) ∧ errR (Prod.fst (Prod.snd (x.2.2))) = (0 : Int) ∧ (∀ (i : Int), i ∈ Prod.snd (Prod.snd (x.2.2)) → (0 : Int) ≤ i ∧ i < Tp.n x.1) ∧ List.length (Prod.snd (Prod.snd (x.2.2))) < 1099511627776) fun n => .all (fun (r : List UInt8 × Int) => r = stpA (Prod.fst (n.2.2)) (atT n.1 (n.2.1) (Prod.fst (Prod.snd (n.2.2))) (Prod.snd (Prod.snd (n.2.2))))) fun n_5 => .ex (fun (x : Tp × List (List UInt8) × Int × List UInt8 × List Int) => eqL [AV.ptr 0 0, AV.str h, AV.osl 1 1 0 1] [AV.ptr 0 0, AV.str (Prod.fst (Prod.snd (x.2.2))), AV.osl 1 1 0 (List.length (Prod.snd (Prod.snd (x.2.2))))] ∧ eqH [.box [AV.int .i64 (Tp.n n.1), AV.sl (List.length (Tp.ops n.1)) 4 (opG (Tp.ops n.1)), AV.sl (List.length (n.2.1)) 1 (ratG (n.2.1)), AV.int .i64 n_5.2], .arr 1 1 (zc 1 [AV.int .i64 i])] [.box [AV.int .i64 (Tp.n x.1), AV.sl (List.length (Tp.ops x.1)) 4 (opG (Tp.ops x.1)), AV.sl (List.length (x.2.1)) 1 (ratG (x.2.1)), AV.int .i64 (Prod.fst (x.2.2))], Blk.arrI .i64 (List.length (Prod.snd (Prod.snd (x.2.2)))) (dgF (Prod.snd (Prod.snd (x.2.2))))] ∧ 2 = 2 ∧ zf x.1 = 0 ∧ (↑(List.length (x.2.1)) : Int) = Tp.n x.1 ∧ allQ (x.2.1) ∧ errR (Prod.fst (Prod.snd (x.2.2))) = (0 : Int) ∧ (∀ (i : Int), i ∈ Prod.snd (Prod.snd (x.2.2)) → (0 : Int) ≤ i ∧ i < Tp.n x.1) ∧ List.length (Prod.snd (Prod.snd (x.2.2))) < 1099511627776) fun n_6 => .all (fun (r : List UInt8 × Int) => r = stpA (Prod.fst (n_6.2.2)) (atT n_6.1 (n_6.2.1) (Prod.fst (Prod.snd (n_6.2.2))) (Prod.snd (Prod.snd (n_6.2.2))))) fun n_7 => .ex (fun (x : Tp × List (List UInt8) × Int × List UInt8 × List Int) => eqL [AV.ptr 0 0, AV.str h, AV.osl 1 1 0 1] [AV.ptr 0 0, AV.str (Prod.fst (Prod.snd (x.2.2))), AV.osl 1 1 0 (List.length (Prod.snd (Prod.snd (x.2.2))))] ∧ eqH [.box [AV.int .i64 (Tp.n n_6.1), AV.sl (List.length (Tp.ops n_6.1)) 4 (opG (Tp.ops n_6.1)), AV.sl (List.length (n_6.2.1)) 1 (ratG (n_6.2.1)), AV.int .i64 n_7.2], .arr 1 1 (zc 1 [AV.int .i64 k])] [.box [AV.int .i64 (Tp.n x.1), AV.sl (List.length (Tp.ops x.1)) 4 (opG (Tp.ops x.1)), AV.sl (List.length (x.2.1)) 1 (ratG (x.2.1)), AV.int .i64 (Prod.fst (x.2.2))], Blk.arrI .i64 (List.length (Prod.snd (Prod.snd (x.2.2)))) (dgF (Prod.snd (Prod.snd (x.2.2))))] ∧ 2 = 2 ∧ zf x.1 = 0 ∧ (↑(List.length (x.2.1)) : Int) = Tp.n x.1 ∧ allQ (x.2.1) ∧ errR (Prod.fst (Prod.snd (x.2.2))) = (0 : Int) ∧ (∀ (i : Int), i ∈ Prod.snd (Prod.snd (x.2.2)) → (0 : Int) ≤ i ∧ i < Tp.n x.1) ∧ List.length (Prod.snd (Prod.snd (x.2.2))) < 1099511627776) fun n_8 => .all (fun (r : List UInt8 × Int) => r = stpA (Prod.fst (n_8.2.2)) (atT n_8.1 (n_8.2.1) (Prod.fst (Prod.snd (n_8.2.2))) (Prod.snd (Prod.snd (n_8.2.2))))) fun n_9 => .ex (fun (x : Tp × List (List UInt8) × Int × Int × List UInt8 × List UInt8) => eqL [AV.ptr 0 0, AV.fn 24 [] [], AV.str n_5.1, AV.str n_7.1] [AV.ptr 0 0, AV.fn (opN (Prod.fst (Prod.snd (x.2.2)))) [] [], AV.str (Prod.fst (Prod.snd (Prod.snd (x.2.2)))), AV.str (Prod.snd (Prod.snd (Prod.snd (x.2.2))))] ∧ eqH [.box [AV.int .i64 (Tp.n n_8.1), AV.sl (List.length (Tp.ops n_8.1)) 4 (opG (Tp.ops n_8.1)), AV.sl (List.length (n_8.2.1)) 1 (ratG (n_8.2.1)), AV.int .i64 n_9.2]] [.box [AV.int .i64 (Tp.n x.1), AV.sl (List.length (Tp.ops x.1)) 4 (opG (Tp.ops x.1)), AV.sl (List.length (x.2.1)) 1 (ratG (x.2.1)), AV.int .i64 (Prod.fst (x.2.2))]] ∧ 1 = 1 ∧ (Prod.fst (Prod.snd (x.2.2)) = (3 : Int) ∨ Prod.fst (Prod.snd (x.2.2)) = (4 : Int) ∨ Prod.fst (Prod.snd (x.2.2)) = (5 : Int) ∨ Prod.fst (Prod.snd (x.2.2)) = (6 : Int)) ∧ List.length (Prod.fst (Prod.snd (Prod.snd (x.2.2)))) < 2305843009213693952 ∧ List.length (Prod.snd (Prod.snd (Prod.snd (x.2.2)))) < 2305843009213693952) fun n_10 => .all (fun (r : List UInt8 × Int) => r = stp (Prod.fst (n_10.2.2)) (arR (Prod.fst (Prod.snd (n_10.2.2)))) (Prod.fst (Prod.snd (Prod.snd (n_10.2.2)))) (Prod.snd (Prod.snd (Prod.snd (n_10.2.2))))) fun n_11 => .ex (fun (x : Tp × List (List UInt8) × Int × Int × List UInt8 × List UInt8) => eqL [AV.ptr 0 0, AV.fn 24 [] [], AV.str n_11.1, AV.str n_9.1] [AV.ptr 0 0, AV.fn (opN (Prod.fst (Prod.snd (x.2.2)))) [] [], AV.str (Prod.fst (Prod.snd (Prod.snd (x.2.2)))), AV.str (Prod.snd (Prod.snd (Prod.snd (x.2.2))))] ∧ eqH [.box [AV.int .i64 (Tp.n n_10.1), AV.sl (List.length (Tp.ops n_10.1)) 4 (opG (Tp.ops n_10.1)), AV.sl (List.length (n_10.2.1)) 1 (ratG (n_10.2.1)), AV.int .i64 n_11.2]] [.box [AV.int .i64 (Tp.n x.1), AV.sl (List.length (Tp.ops x.1)) 4 (opG (Tp.ops x.1)), AV.sl (List.length (x.2.1)) 1 (ratG (x.2.1)), AV.int .i64 (Prod.fst (x.2.2))]] ∧ 1 = 1 ∧ (Prod.fst (Prod.snd (x.2.2)) = (3 : Int) ∨ Prod.fst (Prod.snd (x.2.2)) = (4 : Int) ∨ Prod.fst (Prod.snd (x.2.2)) = (5 : Int) ∨ Prod.fst (Prod.snd (x.2.2)) = (6 : Int)) ∧ List.length (Prod.fst (Prod.snd (Prod.snd (x.2.2)))) < 2305843009213693952 ∧ List.length (Prod.snd (Prod.snd (Prod.snd (x.2.2)))) < 2305843009213693952) fun n_12 => .all (fun (r : List UInt8 × Int) => r = stp (Prod.fst (n_12.2.2)) (arR (Prod.fst (Prod.snd (n_12.2.2)))) (Prod.fst (Prod.snd (Prod.snd (n_12.2.2)))) (Prod.snd (Prod.snd (Prod.snd (n_12.2.2))))) fun n_13 => .ex (fun (x : Tp × List (List UInt8) × Int × Int × List UInt8 × List UInt8) => eqL [AV.ptr 0 0, AV.fn 23 [] [], AV.str n_13.1, AV.str v] [AV.ptr 0 0, AV.fn (opN (Prod.fst (Prod.snd (x.2.2)))) [] [], AV.str (Prod.fst (Prod.snd (Prod.snd (x.2.2)))), AV.str (Prod.snd (Prod.snd (Prod.snd (x.2.2))))] ∧ eqH [.box [AV.int .i64 (Tp.n n_12.1), AV.sl (List.length (Tp.ops n_12.1)) 4 (opG (Tp.ops n_12.1)), AV.sl (List.length (n_12.2.1)) 1 (ratG (n_12.2.1)), AV.int .i64 n_13.2]] [.box [AV.int .i64 (Tp.n x.1), AV.sl (List.length (Tp.ops x.1)) 4 (opG (Tp.ops x.1)), AV.sl (List.length (x.2.1)) 1 (ratG (x.2.1)), AV.int .i64 (Prod.fst (x.2.2))]] ∧ 1 = 1 ∧ (Prod.fst (Prod.snd (x.2.2)) = (3 : Int) ∨ Prod.fst (Prod.snd (x.2.2)) = (4 : Int) ∨ Prod.fst (Prod.snd (x.2.2)) = (5 : Int) ∨ Prod.fst (Prod.snd (x.2.2)) = (6 : Int)) ∧ List.length (Prod.fst (Prod.snd (Prod.snd (x.2.2)))) < 2305843009213693952 ∧ List.length (Prod.snd (Prod.snd (Prod.snd (x.2.2)))) < 2305843009213693952) fun n_14 => .all (fun (r : List UInt8 × Int) => r = stp (Prod.fst (n_14.2.2)) (arR (Prod.fst (Prod.snd (n_14.2.2)))) (Prod.fst (Prod.snd (Prod.snd (n_14.2.2)))) (Prod.snd (Prod.snd (Prod.snd (n_14.2.2))))) fun n_15 => .ex (fun (x : Tp × List (List UInt8) × Int × Int × List UInt8 × List UInt8) => eqL [AV.ptr 0 0, AV.fn 27 [] [], AV.str h, AV.str h] [AV.ptr 0 0, AV.fn (opN (Prod.fst (Prod.snd (x.2.2)))) [] [], AV.str (Prod.fst (Prod.snd (Prod.snd (x.2.2)))), AV.str (Prod.snd (Prod.snd (Prod.snd (x.2.2))))] ∧ eqH [.box [AV.int .i64 (Tp.n n_14.1), AV.sl (List.length (Tp.ops n_14.1)) 4 (opG (Tp.ops n_14.1)), AV.sl (List.length (n_14.2.1)) 1 (ratG (n_14.2.1)), AV.int .i64 n_15.2]] [.box [AV.int .i64 (Tp.n x.1), AV.sl (List.length (Tp.ops x.1)) 4 (opG (Tp.ops x.1)), AV.sl (List.length (x.2.1)) 1 (ratG (x.2.1)), AV.int .i64 (Prod.fst (x.2.2))]] ∧ 1 = 1 ∧ (Prod.fst (Prod.snd (x.2.2)) = (3 : Int) ∨ Prod.fst (Prod.snd (x.2.2)) = (4 : Int) ∨ Prod.fst (Prod.snd (x.2.2)) = (5 : Int) ∨ Prod.fst (Prod.snd (x.2.2)) = (6 : Int)) ∧ List.length (Prod.fst (Prod.snd (Prod.snd (x.2.2)))) < 2305843009213693952 ∧ List.length (Prod.snd (Prod.snd (Prod.snd (x.2.2)))) < 2305843009213693952) fun n_16 => .all (fun (r : List UInt8 × Int) => r = stp (Prod.fst (n_16.2.2)) (arR (Prod.fst (Prod.snd (n_16.2.2)))) (Prod.fst (Prod.snd (Prod.snd (n_16.2.2)))) (Prod.snd (Prod.snd (Prod.snd (n_16.2.2))))) fun n_17 => .leaf (.ret [.str n_15.1, .str n_17.1] [.box [.int .i64 (Tp.n n_16.1), .sl (List.length (Tp.ops n_16.1)) 4 (opG (Tp.ops n_16.1)), .sl (List.length (n_16.2.1)) 1 (ratG (n_16.2.1)), .int .i64 n_17.2], .box [.str h], .box [.int .i64 i], .box [.int .i64 k], Blk.arrI .i64 (List.length (Prod.snd (Prod.snd (n_6.2.2)))) (dgF (Prod.snd (Prod.snd (n_6.2.2)))), Blk.arrI .i64 (List.length (Prod.snd (Prod.snd (n.2.2)))) (dgF (Prod.snd (Prod.snd (n.2.2)))), Blk.arrI .i64 (List.length (Prod.snd (Prod.snd (n_8.2.2)))) (dgF (Prod.snd (Prod.snd (n_8.2.2))))]))) (.ex (fun (x : Tp × List (List UInt8) × Int × List UInt8 × List Int) => eqL [AV.ptr 0 0, AV.str h, AV.osl 1 1 0 2] [AV.ptr 0 0, AV.str (Prod.fst (Prod.snd (x.2.2))), AV.osl 1 1 0 (List.length (Prod.snd (Prod.snd (x.2.2))))] ∧ eqH [.box [AV.int .i64 n, AV.sl ops.length 4 (opG ops), AV.sl inp.length 1 (ratG inp), AV.int .i64 0], .arr 2 1 (zc 1 [AV.int .i64 i, AV.int .i64 k])] [.box [AV.int .i64 (Tp.n x.1), AV.sl (List.length (Tp.ops x.1)) 4 (opG (Tp.ops x.1)), AV.sl (List.length (x.2.1)) 1 (ratG (x.2.1)), AV.int .i64 (Prod.fst (x.2.2))], Blk.arrI .i64 (List.length (Prod.snd (Prod.snd (x.2.2)))) (dgF (Prod.snd (Prod.snd (x.2.2))))] ∧ 2 = 2 ∧ zf x.1 = 0 ∧ (↑(List.length (x.2.1)) : Int) = Tp.n x.1 ∧ allQ (x.2.1) ∧ errR (Prod.fst (Prod.snd (x.2.2))) = (0 : Int) ∧ (∀ (i : Int), i ∈ Prod.snd (Prod.snd (x.2.2)) → (0 : Int) ≤ i ∧ i < Tp.n x.1) ∧ List.length (Prod.snd (Prod.snd (x.2.2))) < 1099511627776) fun n => .all (fun (r : List UInt8 × Int) => r = stpA (Prod.fst (n.2.2)) (atT n.1 (n.2.1) (Prod.fst (Prod.snd (n.2.2))) (Prod.snd (Prod.snd (n.2.2))))) fun n_4 => .ex (fun (x : Tp × List (List UInt8) × Int × List UInt8 × List Int) => eqL [AV.ptr 0 0, AV.str h, AV.osl 1 1 0 1] [AV.ptr 0 0, AV.str (Prod.fst (Prod.snd (x.2.2))), AV.osl 1 1 0 (List.length (Prod.snd (Prod.snd (x.2.2))))] ∧ eqH [.box [AV.int .i64 (Tp.n n.1), AV.sl (List.length (Tp.ops n.1)) 4 (opG (Tp.ops n.1)), AV.sl (List.length (n.2.1)) 1 (ratG (n.2.1)), AV.int .i64 n_4.2], .arr 1 1 (zc 1 [AV.int .i64 i])] [.box [AV.int .i64 (Tp.n x.1), AV.sl (List.length (Tp.ops x.1)) 4 (opG (Tp.ops x.1)), AV.sl (List.length (x.2.1)) 1 (ratG (x.2.1)), AV.int .i64 (Prod.fst (x.2.2))], Blk.arrI .i64 (List.length (Prod.snd (Prod.snd (x.2.2)))) (dgF (Prod.snd (Prod.snd (x.2.2))))] ∧ 2 = 2 ∧ zf x.1 = 0 ∧ (↑(List.length (x.2.1)) : Int) = Tp.n x.1 ∧ allQ (x.2.1) ∧ errR (Prod.fst (Prod.snd (x.2.2))) = (0 : Int) ∧ (∀ (i : Int), i ∈ Prod.snd (Prod.snd (x.2.2)) → (0 : Int) ≤ i ∧ i < Tp.n x.1) ∧ List.length (Prod.snd (Prod.snd (x.2.2))) < 1099511627776) fun n_5 => .all (fun (r : List UInt8 × Int) => r = stpA (Prod.fst (n_5.2.2)) (atT n_5.1 (n_5.2.1) (Prod.fst (Prod.snd (n_5.2.2))) (Prod.snd (Prod.snd (n_5.2.2))))) fun n_6 => .ex (fun (x : Tp × List (List UInt8) × Int × List UInt8 × List Int) => eqL [AV.ptr 0 0, AV.str h, AV.osl 1 1 0 1] [AV.ptr 0 0, AV.str (Prod.fst (Prod.snd (x.2.2))), AV.osl 1 1 0 (List.length (Prod.snd (Prod.snd (x.2.2))))] ∧ eqH [.box [AV.int .i64 (Tp.n n_5.1), AV.sl (List.length (Tp.ops n_5.1)) 4 (opG (Tp.ops n_5.1)), AV.sl (List.length (n_5.2.1)) 1 (ratG (n_5.2.1)), AV.int .i64 n_6.2], .arr 1 1 (zc 1 [AV.int .i64 k])] [.box [AV.int .i64 (Tp.n x.1), AV.sl (List.length (Tp.ops x.1)) 4 (opG (Tp.ops x.1)), AV.sl (List.length (x.2.1)) 1 (ratG (x.2.1)), AV.int .i64 (Prod.fst (x.2.2))], Blk.arrI .i64 (List.length (Prod.snd (Prod.snd (x.2.2)))) (dgF (Prod.snd (Prod.snd (x.2.2))))] ∧ 2 = 2 ∧ zf x.1 = 0 ∧ (↑(List.length (x.2.1)) : Int) = Tp.n x.1 ∧ allQ (x.2.1) ∧ errR (Prod.fst (Prod.snd (x.2.2))) = (0 : Int) ∧ (∀ (i : Int), i ∈ Prod.snd (Prod.snd (x.2.2)) → (0 : Int) ≤ i ∧ i < Tp.n x.1) ∧ List.length (Prod.snd (Prod.snd (x.2.2))) < 1099511627776) fun n_7 => .all (fun (r : List UInt8 × Int) => r = stpA (Prod.fst (n_7.2.2)) (atT n_7.1 (n_7.2.1) (Prod.fst (Prod.snd (n_7.2.2))) (Prod.snd (Prod.snd (n_7.2.2))))) fun n_8 => .ex (fun (x : Tp × List (List UInt8) × Int × Int × List UInt8 × List UInt8) => eqL [AV.ptr 0 0, AV.fn 24 [] [], AV.str n_4.1, AV.str n_6.1] [AV.ptr 0 0, AV.fn (opN (Prod.fst (Prod.snd (x.2.2)))) [] [], AV.str (Prod.fst (Prod.snd (Prod.snd (x.2.2)))), AV.str (Prod.snd (Prod.snd (Prod.snd (x.2.2))))] ∧ eqH [.box [AV.int .i64 (Tp.n n_7.1), AV.sl (List.length (Tp.ops n_7.1)) 4 (opG (Tp.ops n_7.1)), AV.sl (List.length (n_7.2.1)) 1 (ratG (n_7.2.1)), AV.int .i64 n_8.2]] [.box [AV.int .i64 (Tp.n x.1), AV.sl (List.length (Tp.ops x.1)) 4 (opG (Tp.ops x.1)), AV.sl (List.length (x.2.1)) 1 (ratG (x.2.1)), AV.int .i64 (Prod.fst (x.2.2))]] ∧ 1 = 1 ∧ (Prod.fst (Prod.snd (x.2.2)) = (3 : Int) ∨ Prod.fst (Prod.snd (x.2.2)) = (4 : Int) ∨ Prod.fst (Prod.snd (x.2.2)) = (5 : Int) ∨ Prod.fst (Prod.snd (x.2.2)) = (6 : Int)) ∧ List.length (Prod.fst (Prod.snd (Prod.snd (x.2.2)))) < 2305843009213693952 ∧ List.length (Prod.snd (Prod.snd (Prod.snd (x.2.2)))) < 2305843009213693952) fun n_9 => .all (fun (r : List UInt8 × Int) => r = stp (Prod.fst (n_9.2.2)) (arR (Prod.fst (Prod.snd (n_9.2.2)))) (Prod.fst (Prod.snd (Prod.snd (n_9.2.2)))) (Prod.snd (Prod.snd (Prod.snd (n_9.2.2))))) fun n_10 => .ex (fun (x : Tp × List (List UInt8) × Int × Int × List UInt8 × List UInt8) => eqL [AV.ptr 0 0, AV.fn 24 [] [], AV.str n_10.1, AV.str n_8.1] [AV.ptr 0 0, AV.fn (opN (Prod.fst (Prod.snd (x.2.2)))) [] [], AV.str (Prod.fst (Prod.snd (Prod.snd (x.2.2)))), AV.str (Prod.snd (Prod.snd (Prod.snd (x.2.2))))] ∧ eqH [.box [AV.int .i64 (Tp.n n_9.1), AV.sl (List.length (Tp.ops n_9.1)) 4 (opG (Tp.ops n_9.1)), AV.sl (List.length (n_9.2.1)) 1 (ratG (n_9.2.1)), AV.int .i64 n_10.2]] [.box [AV.int .i64 (Tp.n x.1), AV.sl (List.length (Tp.ops x.1)) 4 (opG (Tp.ops x.1)), AV.sl (List.length (x.2.1)) 1 (ratG (x.2.1)), AV.int .i64 (Prod.fst (x.2.2))]] ∧ 1 = 1 ∧ (Prod.fst (Prod.snd (x.2.2)) = (3 : Int) ∨ Prod.fst (Prod.snd (x.2.2)) = (4 : Int) ∨ Prod.fst (Prod.snd (x.2.2)) = (5 : Int) ∨ Prod.fst (Prod.snd (x.2.2)) = (6 : Int)) ∧ List.length (Prod.fst (Prod.snd (Prod.snd (x.2.2)))) < 2305843009213693952 ∧ List.length (Prod.snd (Prod.snd (Prod.snd (x.2.2)))) < 2305843009213693952) fun n_11 => .all (fun (r : List UInt8 × Int) => r = stp (Prod.fst (n_11.2.2)) (arR (Prod.fst (Prod.snd (n_11.2.2)))) (Prod.fst (Prod.snd (Prod.snd (n_11.2.2)))) (Prod.snd (Prod.snd (Prod.snd (n_11.2.2))))) fun n_12 => .ex (fun (x : Tp × List (List UInt8) × Int × Int × List UInt8 × List UInt8) => eqL [AV.ptr 0 0, AV.fn 23 [] [], AV.str n_12.1, AV.str v] [AV.ptr 0 0, AV.fn (opN (Prod.fst (Prod.snd (x.2.2)))) [] [], AV.str (Prod.fst (Prod.snd (Prod.snd (x.2.2)))), AV.str (Prod.snd (Prod.snd (Prod.snd (x.2.2))))] ∧ eqH [.box [AV.int .i64 (Tp.n n_11.1), AV.sl (List.length (Tp.ops n_11.1)) 4 (opG (Tp.ops n_11.1)), AV.sl (List.length (n_11.2.1)) 1 (ratG (n_11.2.1)), AV.int .i64 n_12.2]] [.box [AV.int .i64 (Tp.n x.1), AV.sl (List.length (Tp.ops x.1)) 4 (opG (Tp.ops x.1)), AV.sl (List.length (x.2.1)) 1 (ratG (x.2.1)), AV.int .i64 (Prod.fst (x.2.2))]] ∧ 1 = 1 ∧ (Prod.fst (Prod.snd (x.2.2)) = (3 : Int) ∨ Prod.fst (Prod.snd (x.2.2)) = (4 : Int) ∨ Prod.fst (Prod.snd (x.2.2)) = (5 : Int) ∨ Prod.fst (Prod.snd (x.2.2)) = (6 : Int)) ∧ List.length (Prod.fst (Prod.snd (Prod.snd (x.2.2)))) < 2305843009213693952 ∧ List.length (Prod.snd (Prod.snd (Prod.snd (x.2.2)))) < 2305843009213693952) fun n_13 => .all (fun (r : List UInt8 × Int) => r = stp (Prod.fst (n_13.2.2)) (arR (Prod.fst (Prod.snd (n_13.2.2)))) (Prod.fst (Prod.snd (Prod.snd (n_13.2.2)))) (Prod.snd (Prod.snd (Prod.snd (n_13.2.2))))) fun n_14 => .ex (fun (x : Tp × List (List UInt8) × Int × Int × List UInt8 × List UInt8) => eqL [AV.ptr 0 0, AV.fn 27 [] [], AV.str h, AV.str h] [AV.ptr 0 0, AV.fn (opN (Prod.fst (Prod.snd (x.2.2)))) [] [], AV.str (Prod.fst (Prod.snd (Prod.snd (x.2.2)))), AV.str (Prod.snd (Prod.snd (Prod.snd (x.2.2))))] ∧ eqH [.box [AV.int .i64 (Tp.n n_13.1), AV.sl (List.length (Tp.ops n_13.1)) 4 (opG (Tp.ops n_13.1)), AV.sl (List.length (n_13.2.1)) 1 (ratG (n_13.2.1)), AV.int .i64 n_14.2]] [.box [AV.int .i64 (Tp.n x.1), AV.sl (List.length (Tp.ops x.1)) 4 (opG (Tp.ops x.1)), AV.sl (List.length (x.2.1)) 1 (ratG (x.2.1)), AV.int .i64 (Prod.fst (x.2.2))]] ∧ 1 = 1 ∧ (Prod.fst (Prod.snd (x.2.2)) = (3 : Int) ∨ Prod.fst (Prod.snd (x.2.2)) = (4 : Int) ∨ Prod.fst (Prod.snd (x.2.2)) = (5 : Int) ∨ Prod.fst (Prod.snd (x.2.2)) = (6 : Int)) ∧ List.length (Prod.fst (Prod.snd (Prod.snd (x.2.2)))) < 2305843009213693952 ∧ List.length (Prod.snd (Prod.snd (Prod.snd (x.2.2)))) < 2305843009213693952) fun n_15 => .all (fun (r : List UInt8 × Int) => r = stp (Prod.fst (n_15.2.2)) (arR (Prod.fst (Prod.snd (n_15.2.2)))) (Prod.fst (Prod.snd (Prod.snd (n_15.2.2)))) (Prod.snd (Prod.snd (Prod.snd (n_15.2.2))))) fun n_16 => .leaf (.ret [.str n_14.1, .str n_16.1] [.box [.int .i64 (Tp.n n_15.1), .sl (List.length (Tp.ops n_15.1)) 4 (opG (Tp.ops n_15.1)), .sl (List.length (n_15.2.1)) 1 (ratG (n_15.2.1)), .int .i64 n_16.2], .box [.str h], .box [.int .i64 i], .box [.int .i64 k], Blk.arrI .i64 (List.length (Prod.snd (Prod.snd (n_5.2.2)))) (dgF (Prod.snd (Prod.snd (n_5.2.2)))), Blk.arrI .i64 (List.length (Prod.snd (Prod.snd (n_7.2.2)))) (dgF (Prod.snd (Prod.snd (n_7.2.2)))), Blk.arrI .i64 (List.length (Prod.snd (Prod.snd (n.2.2)))) (dgF (Prod.snd (Prod.snd (n.2.2))))]))) (.all (fun (x : Bool) => True) fun n_3 => .ite n_3 (.all (fun (x : Bool) => True) fun n_4 => .ite n_4 (.ex (fun (x : Tp × List (List UInt8) × Int × List UInt8 × List Int) => eqL [AV.ptr 0 0, AV.str h, AV.osl 1 1 0 2] [AV.ptr 0 0, AV.str (Prod.fst (Prod.snd (x.2.2))), AV.osl 1 1 0 (List.length (Prod.snd (Prod.snd (x.2.2))))] ∧ eqH [.box [AV.int .i64 n, AV.sl ops.length 4 (opG ops), AV.sl inp.length 1 (ratG inp), AV.int .i64 0], .arr 2 1 (zc 1 [AV.int .i64 i, AV.int .i64 k])] [.box [AV.int .i64 (Tp.n x.1), AV.sl (List.length (Tp.ops x.1)) 4 (opG (Tp.ops x.1)), AV.sl (List.length (x.2.1)) 1 (ratG (x.2.1)), AV.int .i64 (Prod.fst (x.2.2))], Blk.arrI .i64 (List.length (Prod.snd (Prod.snd (x.2.2)))) (dgF (Prod.snd (Prod.snd (x.2.2))))] ∧ 2 = 2 ∧ zf x.1 = 0 ∧ (↑(List.length (x.2.1)) : Int) = Tp.n x.1 ∧ allQ (x.2.1) ∧ errR (Prod.fst (Prod.snd (x.2.2))) = (0 : Int) ∧ (∀ (i : Int), i ∈ Prod.snd (Prod.snd (x.2.2)) → (0 : Int) ≤ i ∧ i < Tp.n x.1) ∧ List.length (Prod.snd (Prod.snd (x.2.2))) < 1099511627776) fun n => .all (fun (r : List UInt8 × Int) => r = stpA (Prod.fst (n.2.2)) (atT n.1 (n.2.1) (Prod.fst (Prod.snd (n.2.2))) (Prod.snd (Prod.snd (n.2.2))))) fun n_5 => .ex (fun (x : Tp × List (List UInt8) × Int × List UInt8 × List Int) => eqL [AV.ptr 0 0, AV.str h, AV.osl 1 1 0 1] [AV.ptr 0 0, AV.str (Prod.fst (Prod.snd (x.2.2))), AV.osl 1 1 0 (List.length (Prod.snd (Prod.snd (x.2.2))))] ∧ eqH [.box [AV.int .i64 (Tp.n n.1), AV.sl (List.length (Tp.ops n.1)) 4 (opG (Tp.ops n.1)), AV.sl (List.length (n.2.1)) 1 (ratG (n.2.1)), AV.int .i64 n_5.2], .arr 1 1 (zc 1 [AV.int .i64 i])] [.box [AV.int .i64 (Tp.n x.1), AV.sl (List.length (Tp.ops x.1)) 4 (opG (Tp.ops x.1)), AV.sl (List.length (x.2.1)) 1 (ratG (x.2.1)), AV.int .i64 (Prod.fst (x.2.2))], Blk.arrI .i64 (List.length (Prod.snd (Prod.snd (x.2.2)))) (dgF (Prod.snd (Prod.snd (x.2.2))))] ∧ 2 = 2 ∧ zf x.1 = 0 ∧ (↑(List.length (x.2.1)) : Int) = Tp.n x.1 ∧ allQ (x.2.1) ∧ errR (Prod.fst (Prod.snd (x.2.2))) = (0 : Int) ∧ (∀ (i : Int), i ∈ Prod.snd (Prod.snd (x.2.2)) → (0 : Int) ≤ i ∧ i < Tp.n x.1) ∧ List.length (Prod.snd (Prod.snd (x.2.2))) < 1099511627776) fun n_6 => .all (fun (r : List UInt8 × Int) => r = stpA (Prod.fst (n_6.2.2)) (atT n_6.1 (n_6.2.1) (Prod.fst (Prod.snd (n_6.2.2))) (Prod.snd (Prod.snd (n_6.2.2))))) fun n_7 => .ex (fun (x : Tp × List (List UInt8) × Int × List UInt8 × List Int) => eqL [AV.ptr 0 0, AV.str h, AV.osl 1 1 0 1] [AV.ptr 0 0, AV.str (Prod.fst (Prod.snd (x.2.2))), AV.osl 1 1 0 (List.length (Prod.snd (Prod.snd (x.2.2))))] ∧ eqH [.box [AV.int .i64 (Tp.n n_6.1), AV.sl (List.length (Tp.ops n_6.1)) 4 (opG (Tp.ops n_6.1)), AV.sl (List.length (n_6.2.1)) 1 (ratG (n_6.2.1)), AV.int .i64 n_7.2], .arr 1 1 (zc 1 [AV.int .i64 k])] [.box [AV.int .i64 (Tp.n x.1), AV.sl (List.length (Tp.ops x.1)) 4 (opG (Tp.ops x.1)), AV.sl (List.length (x.2.1)) 1 (ratG (x.2.1)), AV.int .i64 (Prod.fst (x.2.2))], Blk.arrI .i64 (List.length (Prod.snd (Prod.snd (x.2.2)))) (dgF (Prod.snd (Prod.snd (x.2.2))))] ∧ 2 = 2 ∧ zf x.1 = 0 ∧ (↑(List.length (x.2.1)) : Int) = Tp.n x.1 ∧ allQ (x.2.1) ∧ errR (Prod.fst (Prod.snd (x.2.2))) = (0 : Int) ∧ (∀ (i : Int), i ∈ Prod.snd (Prod.snd (x.2.2)) → (0 : Int) ≤ i ∧ i < Tp.n x.1) ∧ List.length (Prod.snd (Prod.snd (x.2.2))) < 1099511627776) fun n_8 => .all (fun (r : List UInt8 × Int) => r = stpA (Prod.fst (n_8.2.2)) (atT n_8.1 (n_8.2.1) (Prod.fst (Prod.snd (n_8.2.2))) (Prod.snd (Prod.snd (n_8.2.2))))) fun n_9 => .ex (fun (x : Tp × List (List UInt8) × Int × Int × List UInt8 × List UInt8) => eqL [AV.ptr 0 0, AV.fn 24 [] [], AV.str n_5.1, AV.str n_7.1] [AV.ptr 0 0, AV.fn (opN (Prod.fst (Prod.snd (x.2.2)))) [] [], AV.str (Prod.fst (Prod.snd (Prod.snd (x.2.2)))), AV.str (Prod.snd (Prod.snd (Prod.snd (x.2.2))))] ∧ eqH [.box [AV.int .i64 (Tp.n n_8.1), AV.sl (List.length (Tp.ops n_8.1)) 4 (opG (Tp.ops n_8.1)), AV.sl (List.length (n_8.2.1)) 1 (ratG (n_8.2.1)), AV.int .i64 n_9.2]] [.box [AV.int .i64 (Tp.n x.1), AV.sl (List.length (Tp.ops x.1)) 4 (opG (Tp.ops x.1)), AV.sl (List.length (x.2.1)) 1 (ratG (x.2.1)), AV.int .i64 (Prod.fst (x.2.2))]] ∧ 1 = 1 ∧ (Prod.fst (Prod.snd (x.2.2)) = (3 : Int) ∨ Prod.fst (Prod.snd (x.2.2)) = (4 : Int) ∨ Prod.fst (Prod.snd (x.2.2)) = (5 : Int) ∨ Prod.fst (Prod.snd (x.2.2)) = (6 : Int)) ∧ List.length (Prod.fst (Prod.snd (Prod.snd (x.2.2)))) < 2305843009213693952 ∧ List.length (Prod.snd (Prod.snd (Prod.snd (x.2.2)))) < 2305843009213693952) fun n_10 => .all (fun (r : List UInt8 × Int) => r = stp (Prod.fst (n_10.2.2)) (arR (Prod.fst (Prod.snd (n_10.2.2)))) (Prod.fst (Prod.snd (Prod.snd (n_10.2.2)))) (Prod.snd (Prod.snd (Prod.snd (n_10.2.2))))) fun n_11 => .ex (fun (x : Tp × List (List UInt8) × Int × Int × List UInt8 × List UInt8) => eqL [AV.ptr 0 0, AV.fn 24 [] [], AV.str n_11.1, AV.str n_9.1] [AV.ptr 0 0, AV.fn (opN (Prod.fst (Prod.snd (x.2.2)))) [] [], AV.str (Prod.fst (Prod.snd (Prod.snd (x.2.2)))), AV.str (Prod.snd (Prod.snd (Prod.snd (x.2.2))))] ∧ eqH [.box [AV.int .i64 (Tp.n n_10.1), AV.sl (List.length (Tp.ops n_10.1)) 4 (opG (Tp.ops n_10.1)), AV.sl (List.length (n_10.2.1)) 1 (ratG (n_10.2.1)), AV.int .i64 n_11.2]] [.box [AV.int .i64 (Tp.n x.1), AV.sl (List.length (Tp.ops x.1)) 4 (opG (Tp.ops x.1)), AV.sl (List.length (x.2.1)) 1 (ratG (x.2.1)), AV.int .i64 (Prod.fst (x.2.2))]] ∧ 1 = 1 ∧ (Prod.fst (Prod.snd (x.2.2)) = (3 : Int) ∨ Prod.fst (Prod.snd (x.2.2)) = (4 : Int) ∨ Prod.fst (Prod.snd (x.2.2)) = (5 : Int) ∨ Prod.fst (Prod.snd (x.2.2)) = (6 : Int)) ∧ List.length (Prod.fst (Prod.snd (Prod.snd (x.2.2)))) < 2305843009213693952 ∧ List.length (Prod.snd (Prod.snd (Prod.snd (x.2.2)))) < 2305843009213693952) fun n_12 => .all (fun (r : List UInt8 × Int) => r = stp (Prod.fst (n_12.2.2)) (arR (Prod.fst (Prod.snd (n_12.2.2)))) (Prod.fst (Prod.snd (Prod.snd (n_12.2.2)))) (Prod.snd (Prod.snd (Prod.snd (n_12.2.2))))) fun n_13 => .ex (fun (x : Tp × List (List UInt8) × Int × Int × List UInt8 × List UInt8) => eqL [AV.ptr 0 0, AV.fn 23 [] [], AV.str n_13.1, AV.str v] [AV.ptr 0 0, AV.fn (opN (Prod.fst (Prod.snd (x.2.2)))) [] [], AV.str (Prod.fst (Prod.snd (Prod.snd (x.2.2)))), AV.str (Prod.snd (Prod.snd (Prod.snd (x.2.2))))] ∧ eqH [.box [AV.int .i64 (Tp.n n_12.1), AV.sl (List.length (Tp.ops n_12.1)) 4 (opG (Tp.ops n_12.1)), AV.sl (List.length (n_12.2.1)) 1 (ratG (n_12.2.1)), AV.int .i64 n_13.2]] [.box [AV.int .i64 (Tp.n x.1), AV.sl (List.length (Tp.ops x.1)) 4 (opG (Tp.ops x.1)), AV.sl (List.length (x.2.1)) 1 (ratG (x.2.1)), AV.int .i64 (Prod.fst (x.2.2))]] ∧ 1 = 1 ∧ (Prod.fst (Prod.snd (x.2.2)) = (3 : Int) ∨ Prod.fst (Prod.snd (x.2.2)) = (4 : Int) ∨ Prod.fst (Prod.snd (x.2.2)) = (5 : Int) ∨ Prod.fst (Prod.snd (x.2.2)) = (6 : Int)) ∧ List.length (Prod.fst (Prod.snd (Prod.snd (x.2.2)))) < 2305843009213693952 ∧ List.length (Prod.snd (Prod.snd (Prod.snd (x.2.2)))) < 2305843009213693952) fun n_14 => .all (fun (r : List UInt8 × Int) => r = stp (Prod.fst (n_14.2.2)) (arR (Prod.fst (Prod.snd (n_14.2.2)))) (Prod.fst (Prod.snd (Prod.snd (n_14.2.2)))) (Prod.snd (Prod.snd (Prod.snd (n_14.2.2))))) fun n_15 => .ex (fun (x : Tp × List (List UInt8) × Int × Int × List UInt8 × List UInt8) => eqL [AV.ptr 0 0, AV.fn 27 [] [], AV.str h, AV.str h] [AV.ptr 0 0, AV.fn (opN (Prod.fst (Prod.snd (x.2.2)))) [] [], AV.str (Prod.fst (Prod.snd (Prod.snd (x.2.2)))), AV.str (Prod.snd (Prod.snd (Prod.snd (x.2.2))))] ∧ eqH [.box [AV.int .i64 (Tp.n n_14.1), AV.sl (List.length (Tp.ops n_14.1)) 4 (opG (Tp.ops n_14.1)), AV.sl (List.length (n_14.2.1)) 1 (ratG (n_14.2.1)), AV.int .i64 n_15.2]] [.box [AV.int .i64 (Tp.n x.1), AV.sl (List.length (Tp.ops x.1)) 4 (opG (Tp.ops x.1)), AV.sl (List.length (x.2.1)) 1 (ratG (x.2.1)), AV.int .i64 (Prod.fst (x.2.2))]] ∧ 1 = 1 ∧ (Prod.fst (Prod.snd (x.2.2)) = (3 : Int) ∨ Prod.fst (Prod.snd (x.2.2)) = (4 : Int) ∨ Prod.fst (Prod.snd (x.2.2)) = (5 : Int) ∨ Prod.fst (Prod.snd (x.2.2)) = (6 : Int)) ∧ List.length (Prod.fst (Prod.snd (Prod.snd (x.2.2)))) < 2305843009213693952 ∧ List.length (Prod.snd (Prod.snd (Prod.snd (x.2.2)))) < 2305843009213693952) fun n_16 => .all (fun (r : List UInt8 × Int) => r = stp (Prod.fst (n_16.2.2)) (arR (Prod.fst (Prod.snd (n_16.2.2)))) (Prod.fst (Prod.snd (Prod.snd (n_16.2.2)))) (Prod.snd (Prod.snd (Prod.snd (n_16.2.2))))) fun n_17 => .leaf (.ret [.str n_15.1, .str n_17.1] [.box [.int .i64 (Tp.n n_16.1), .sl (List.length (Tp.ops n_16.1)) 4 (opG (Tp.ops n_16.1)), .sl (List.length (n_16.2.1)) 1 (ratG (n_16.2.1)), .int .i64 n_17.2], .box [.str h], .box [.int .i64 i], .box [.int .i64 k], Blk.arrI .i64 (List.length (Prod.snd (Prod.snd (n_8.2.2)))) (dgF (Prod.snd (Prod.snd (n_8.2.2)))), Blk.arrI .i64 (List.length (Prod.snd (Prod.snd (n.2.2)))) (dgF (Prod.snd (Prod.snd (n.2.2)))), Blk.arrI .i64 (List.length (Prod.snd (Prod.snd (n_6.2.2)))) (dgF (Prod.snd (Prod.snd (n_6.2.2))))])) (.ex (fun (x : Tp × List (List UInt8) × Int × List UInt8 × List Int) => eqL [AV.ptr 0 0, AV.str h, AV.osl 1 1 0 2] [AV.ptr 0 0, AV.str (Prod.fst (Prod.snd (x.2.2))), AV.osl 1 1 0 (List.length (Prod.snd (Prod.snd (x.2.2))))] ∧ eqH [.box [AV.int .i64 n, AV.sl ops.length 4 (opG ops), AV.sl inp.length 1 (ratG inp), AV.int .i64 0], .arr 2 1 (zc 1 [AV.int .i64 i, AV.int .i64 k])] [.box [AV.int .i64 (Tp.n x.1), AV.sl (List.length (Tp.ops x.1)) 4 (opG (Tp.ops x.1)), AV.sl (List.length (x.2.1)) 1 (ratG (x.2.1)), AV.int .i64 (Prod.fst (x.2.2))], Blk.arrI .i64 (List.length (Prod.snd (Prod.snd (x.2.2)))) (dgF (Prod.snd (Prod.snd (x.2.2))))] ∧ 2 = 2 ∧ zf x.1 = 0 ∧ (↑(List.length (x.2.1)) : Int) = Tp.n x.1 ∧ allQ (x.2.1) ∧ errR (Prod.fst (Prod.snd (x.2.2))) = (0 : Int) ∧ (∀ (i : Int), i ∈ Prod.snd (Prod.snd (x.2.2)) → (0 : Int) ≤ i ∧ i < Tp.n x.1) ∧ List.length (Prod.snd (Prod.snd (x.2.2))) < 1099511627776) fun n => .all (fun (r : List UInt8 × Int) => r = stpA (Prod.fst (n.2.2)) (atT n.1 (n.2.1) (Prod.fst (Prod.snd (n.2.2))) (Prod.snd (Prod.snd (n.2.2))))) fun n_5 => .ex (fun (x : Tp × List (List UInt8) × Int × List UInt8 × List Int) => eqL [AV.ptr 0 0, AV.str h, AV.osl 1 1 0 1] [AV.ptr 0 0, AV.str (Prod.fst (Prod.snd (x.2.2))), AV.osl 1 1 0 (List.length (Prod.snd (Prod.snd (x.2.2))))] ∧ eqH [.box [AV.int .i64 (Tp.n n.1), AV.sl (List.length (Tp.ops n.1)) 4 (opG (Tp.ops n.1)), AV.sl (List.length (n.2.1)) 1 (ratG (n.2.1)), AV.int .i64 n_5.2], .arr 1 1 (zc 1 [AV.int .i64 i])] [.box [AV.int .i64 (Tp.n x.1), AV.sl (List.length (Tp.ops x.1)) 4 (opG (Tp.ops x.1)), AV.sl (List.length (x.2.1)) 1 (ratG (x.2.1)), AV.int .i64 (Prod.fst (x.2.2))], Blk.arrI .i64 (List.length (Prod.snd (Prod.snd (x.2.2)))) (dgF (Prod.snd (Prod.snd (x.2.2))))] ∧ 2 = 2 ∧ zf x.1 = 0 ∧ (↑(List.length (x.2.1)) : Int) = Tp.n x.1 ∧ allQ (x.2.1) ∧ errR (Prod.fst (Prod.snd (x.2.2))) = (0 : Int) ∧ (∀ (i : Int), i ∈ Prod.snd (Prod.snd (x.2.2)) → (0 : Int) ≤ i ∧ i < Tp.n x.1) ∧ List.length (Prod.snd (Prod.snd (x.2.2))) < 1099511627776) fun n_6 => .all (fun (r : List UInt8 × Int) => r = stpA (Prod.fst (n_6.2.2)) (atT n_6.1 (n_6.2.1) (Prod.fst (Prod.snd (n_6.2.2))) (Prod.snd (Prod.snd (n_6.2.2))))) fun n_7 => .ex (fun (x : Tp × List (List UInt8) × Int × List UInt8 × List Int) => eqL [AV.ptr 0 0, AV.str h, AV.osl 1 1 0 1] [AV.ptr 0 0, AV.str (Prod.fst (Prod.snd (x.2.2))), AV.osl 1 1 0 (List.length (Prod.snd (Prod.snd (x.2.2))))] ∧ eqH [.box [AV.int .i64 (Tp.n n_6.1), AV.sl (List.length (Tp.ops n_6.1)) 4 (opG (Tp.ops n_6.1)), AV.sl (List.length (n_6.2.1)) 1 (ratG (n_6.2.1)), AV.int .i64 n_7.2], .arr 1 1 (zc 1 [AV.int .i64 k])] [.box [AV.int .i64 (Tp.n x.1), AV.sl (List.length (Tp.ops x.1)) 4 (opG (Tp.ops x.1)), AV.sl (List.length (x.2.1)) 1 (ratG (x.2.1)), AV.int .i64 (Prod.fst (x.2.2))], Blk.arrI .i64 (List.length (Prod.snd (Prod.snd (x.2.2)))) (dgF (Prod.snd (Prod.snd (x.2.2))))] ∧ 2 = 2 ∧ zf x.1 = 0 ∧ (↑(List.length (x.2.1)) : Int) = Tp.n x.1 ∧ allQ (x.2.1) ∧ errR (Prod.fst (Prod.snd (x.2.2))) = (0 : Int) ∧ (∀ (i : Int), i ∈ Prod.snd (Prod.snd (x.2.2)) → (0 : Int) ≤ i ∧ i < Tp.n x.1) ∧ List.length (Prod.snd (Prod.snd (x.2.2))) < 1099511627776) fun n_8 => .all (fun (r : List UInt8 × Int) => r = stpA (Prod.fst (n_8.2.2)) (atT n_8.1 (n_8.2.1) (Prod.fst (Prod.snd (n_8.2.2))) (Prod.snd (Prod.snd (n_8.2.2))))) fun n_9 => .ex (fun (x : Tp × List (List UInt8) × Int × Int × List UInt8 × List UInt8) => eqL [AV.ptr 0 0, AV.fn 24 [] [], AV.str n_5.1, AV.str n_7.1] [AV.ptr 0 0, AV.fn (opN (Prod.fst (Prod.snd (x.2.2)))) [] [], AV.str (Prod.fst (Prod.snd (Prod.snd (x.2.2)))), AV.str (Prod.snd (Prod.snd (Prod.snd (x.2.2))))] ∧ eqH [.box [AV.int .i64 (Tp.n n_8.1), AV.sl (List.length (Tp.ops n_8.1)) 4 (opG (Tp.ops n_8.1)), AV.sl (List.length (n_8.2.1)) 1 (ratG (n_8.2.1)), AV.int .i64 n_9.2]] [.box [AV.int .i64 (Tp.n x.1), AV.sl (List.length (Tp.ops x.1)) 4 (opG (Tp.ops x.1)), AV.sl (List.length (x.2.1)) 1 (ratG (x.2.1)), AV.int .i64 (Prod.fst (x.2.2))]] ∧ 1 = 1 ∧ (Prod.fst (Prod.snd (x.2.2)) = (3 : Int) ∨ Prod.fst (Prod.snd (x.2.2)) = (4 : Int) ∨ Prod.fst (Prod.snd (x.2.2)) = (5 : Int) ∨ Prod.fst (Prod.snd (x.2.2)) = (6 : Int)) ∧ List.length (Prod.fst (Prod.snd (Prod.snd (x.2.2)))) < 2305843009213693952 ∧ List.length (Prod.snd (Prod.snd (Prod.snd (x.2.2)))) < 2305843009213693952) fun n_10 => .all (fun (r : List UInt8 × Int) => r = stp (Prod.fst (n_10.2.2)) (arR (Prod.fst (Prod.snd (n_10.2.2)))) (Prod.fst (Prod.snd (Prod.snd (n_10.2.2)))) (Prod.snd (Prod.snd (Prod.snd (n_10.2.2))))) fun n_11 => .ex (fun (x : Tp × List (List UInt8) × Int × Int × List UInt8 × List UInt8) => eqL [AV.ptr 0 0, AV.fn 24 [] [], AV.str n_11.1, AV.str n_9.1] [AV.ptr 0 0, AV.fn (opN (Prod.fst (Prod.snd (x.2.2)))) [] [], AV.str (Prod.fst (Prod.snd (Prod.snd (x.2.2)))), AV.str (Prod.snd (Prod.snd (Prod.snd (x.2.2))))] ∧ eqH [.box [AV.int .i64 (Tp.n n_10.1), AV.sl (List.length (Tp.ops n_10.1)) 4 (opG (Tp.ops n_10.1)), AV.sl (List.length (n_10.2.1)) 1 (ratG (n_10.2.1)), AV.int .i64 n_11.2]] [.box [AV.int .i64 (Tp.n x.1), AV.sl (List.length (Tp.ops x.1)) 4 (opG (Tp.ops x.1)), AV.sl (List.length (x.2.1)) 1 (ratG (x.2.1)), AV.int .i64 (Prod.fst (x.2.2))]] ∧ 1 = 1 ∧ (Prod.fst (Prod.snd (x.2.2)) = (3 : Int) ∨ Prod.fst (Prod.snd (x.2.2)) = (4 : Int) ∨ Prod.fst (Prod.snd (x.2.2)) = (5 : Int) ∨ Prod.fst (Prod.snd (x.2.2)) = (6 : Int)) ∧ List.length (Prod.fst (Prod.snd (Prod.snd (x.2.2)))) < 2305843009213693952 ∧ List.length (Prod.snd (Prod.snd (Prod.snd (x.2.2)))) < 2305843009213693952) fun n_12 => .all (fun (r : List UInt8 × Int) => r = stp (Prod.fst (n_12.2.2)) (arR (Prod.fst (Prod.snd (n_12.2.2)))) (Prod.fst (Prod.snd (Prod.snd (n_12.2.2)))) (Prod.snd (Prod.snd (Prod.snd (n_12.2.2))))) fun n_13 => .ex (fun (x : Tp × List (List UInt8) × Int × Int × List UInt8 × List UInt8) => eqL [AV.ptr 0 0, AV.fn 23 [] [], AV.str n_13.1, AV.str v] [AV.ptr 0 0, AV.fn (opN (Prod.fst (Prod.snd (x.2.2)))) [] [], AV.str (Prod.fst (Prod.snd (Prod.snd (x.2.2)))), AV.str (Prod.snd (Prod.snd (Prod.snd (x.2.2))))] ∧ eqH [.box [AV.int .i64 (Tp.n n_12.1), AV.sl (List.length (Tp.ops n_12.1)) 4 (opG (Tp.ops n_12.1)), AV.sl (List.length (n_12.2.1)) 1 (ratG (n_12.2.1)), AV.int .i64 n_13.2]] [.box [AV.int .i64 (Tp.n x.1), AV.sl (List.length (Tp.ops x.1)) 4 (opG (Tp.ops x.1)), AV.sl (List.length (x.2.1)) 1 (ratG (x.2.1)), AV.int .i64 (Prod.fst (x.2.2))]] ∧ 1 = 1 ∧ (Prod.fst (Prod.snd (x.2.2)) = (3 : Int) ∨ Prod.fst (Prod.snd (x.2.2)) = (4 : Int) ∨ Prod.fst (Prod.snd (x.2.2)) = (5 : Int) ∨ Prod.fst (Prod.snd (x.2.2)) = (6 : Int)) ∧ List.length (Prod.fst (Prod.snd (Prod.snd (x.2.2)))) < 2305843009213693952 ∧ List.length (Prod.snd (Prod.snd (Prod.snd (x.2.2)))) < 2305843009213693952) fun n_14 => .all (fun (r : List UInt8 × Int) => r = stp (Prod.fst (n_14.2.2)) (arR (Prod.fst (Prod.snd (n_14.2.2)))) (Prod.fst (Prod.snd (Prod.snd (n_14.2.2)))) (Prod.snd (Prod.snd (Prod.snd (n_14.2.2))))) fun n_15 => .ex (fun (x : Tp × List (List UInt8) × Int × Int × List UInt8 × List UInt8) => eqL [AV.ptr 0 0, AV.fn 27 [] [], AV.str h, AV.str h] [AV.ptr 0 0, AV.fn (opN (Prod.fst (Prod.snd (x.2.2)))) [] [], AV.str (Prod.fst (Prod.snd (Prod.snd (x.2.2)))), AV.str (Prod.snd (Prod.snd (Prod.snd (x.2.2))))] ∧ eqH [.box [AV.int .i64 (Tp.n n_14.1), AV.sl (List.length (Tp.ops n_14.1)) 4 (opG (Tp.ops n_14.1)), AV.sl (List.length (n_14.2.1)) 1 (ratG (n_14.2.1)), AV.int .i64 n_15.2]] [.box [AV.int .i64 (Tp.n x.1), AV.sl (List.length (Tp.ops x.1)) 4 (opG (Tp.ops x.1)), AV.sl (List.length (x.2.1)) 1 (ratG (x.2.1)), AV.int .i64 (Prod.fst (x.2.2))]] ∧ 1 = 1 ∧ (Prod.fst (Prod.snd (x.2.2)) = (3 : Int) ∨ Prod.fst (Prod.snd (x.2.2)) = (4 : Int) ∨ Prod.fst (Prod.snd (x.2.2)) = (5 : Int) ∨ Prod.fst (Prod.snd (x.2.2)) = (6 : Int)) ∧ List.length (Prod.fst (Prod.snd (Prod.snd (x.2.2)))) < 2305843009213693952 ∧ List.length (Prod.snd (Prod.snd (Prod.snd (x.2.2)))) < 2305843009213693952) fun n_16 => .all (fun (r : List UInt8 × Int) => r = stp (Prod.fst (n_16.2.2)) (arR (Prod.fst (Prod.snd (n_16.2.2)))) (Prod.fst (Prod.snd (Prod.snd (n_16.2.2)))) (Prod.snd (Prod.snd (Prod.snd (n_16.2.2))))) fun n_17 => .leaf (.ret [.str n_15.1, .str n_17.1] [.box [.int .i64 (Tp.n n_16.1), .sl (List.length (Tp.ops n_16.1)) 4 (opG (Tp.ops n_16.1)), .sl (List.length (n_16.2.1)) 1 (ratG (n_16.2.1)), .int .i64 n_17.2], .box [.str h], .box [.int .i64 i], .box [.int .i64 k], Blk.arrI .i64 (List.length (Prod.snd (Prod.snd (n_8.2.2)))) (dgF (Prod.snd (Prod.snd (n_8.2.2)))), Blk.arrI .i64 (List.length (Prod.snd (Prod.snd (n.2.2)))) (dgF (Prod.snd (Prod.snd (n.2.2)))), Blk.arrI .i64 (List.length (Prod.snd (Prod.snd (n_6.2.2)))) (dgF (Prod.snd (Prod.snd (n_6.2.2))))]))) (.ex (fun (x : Tp × List (List UInt8) × Int × List UInt8 × List Int) => eqL [AV.ptr 0 0, AV.str h, AV.osl 1 1 0 2] [AV.ptr 0 0, AV.str (Prod.fst (Prod.snd (x.2.2))), AV.osl 1 1 0 (List.length (Prod.snd (Prod.snd (x.2.2))))] ∧ eqH [.box [AV.int .i64 n, AV.sl ops.length 4 (opG ops), AV.sl inp.length 1 (ratG inp), AV.int .i64 0], .arr 2 1 (zc 1 [AV.int .i64 i, AV.int .i64 k])] [.box [AV.int .i64 (Tp.n x.1), AV.sl (List.length (Tp.ops x.1)) 4 (opG (Tp.ops x.1)), AV.sl (List.length (x.2.1)) 1 (ratG (x.2.1)), AV.int .i64 (Prod.fst (x.2.2))], Blk.arrI .i64 (List.length (Prod.snd (Prod.snd (x.2.2)))) (dgF (Prod.snd (Prod.snd (x.2.2))))] ∧ 2 = 2 ∧ zf x.1 = 0 ∧ (↑(List.length (x.2.1)) : Int) = Tp.n x.1 ∧ allQ (x.2.1) ∧ errR (Prod.fst (Prod.snd (x.2.2))) = (0 : Int) ∧ (∀ (i : Int), i ∈ Prod.snd (Prod.snd (x.2.2)) → (0 : Int) ≤ i ∧ i < Tp.n x.1) ∧ List.length (Prod.snd (Prod.snd (x.2.2))) < 1099511627776) fun n => .all (fun (r : List UInt8 × Int) => r = stpA (Prod.fst (n.2.2)) (atT n.1 (n.2.1) (Prod.fst (Prod.snd (n.2.2))) (Prod.snd (Prod.snd (n.2.2))))) fun n_4 => .ex (fun (x : Tp × List (List UInt8) × Int × List UInt8 × List Int) => eqL [AV.ptr 0 0, AV.str h, AV.osl 1 1 0 1] [AV.ptr 0 0, AV.str (Prod.fst (Prod.snd (x.2.2))), AV.osl 1 1 0 (List.length (Prod.snd (Prod.snd (x.2.2))))] ∧ eqH [.box [AV.int .i64 (Tp.n n.1), AV.sl (List.length (Tp.ops n.1)) 4 (opG (Tp.ops n.1)), AV.sl (List.length (n.2.1)) 1 (ratG (n.2.1)), AV.int .i64 n_4.2], .arr 1 1 (zc 1 [AV.int .i64 i])] [.box [AV.int .i64 (Tp.n x.1), AV.sl (List.length (Tp.ops x.1)) 4 (opG (Tp.ops x.1)), AV.sl (List.length (x.2.1)) 1 (ratG (x.2.1)), AV.int .i64 (Prod.fst (x.2.2))], Blk.arrI .i64 (List.length (Prod.snd (Prod.snd (x.2.2)))) (dgF (Prod.snd (Prod.snd (x.2.2))))] ∧ 2 = 2 ∧ zf x.1 = 0 ∧ (↑(List.length (x.2.1)) : Int) = Tp.n x.1 ∧ allQ (x.2.1) ∧ errR (Prod.fst (Prod.snd (x.2.2))) = (0 : Int) ∧ (∀ (i : Int), i ∈ Prod.snd (Prod.snd (x.2.2)) → (0 : Int) ≤ i ∧ i < Tp.n x.1) ∧ List.length (Prod.snd (Prod.snd (x.2.2))) < 1099511627776) fun n_5 => .all (fun (r : List UInt8 × Int) => r = stpA (Prod.fst (n_5.2.2)) (atT n_5.1 (n_5.2.1) (Prod.fst (Prod.snd (n_5.2.2))) (Prod.snd (Prod.snd (n_5.2.2))))) fun n_6 => .ex (fun (x : Tp × List (List UInt8) × Int × List UInt8 × List Int) => eqL [AV.ptr 0 0, AV.str h, AV.osl 1 1 0 1] [AV.ptr 0 0, AV.str (Prod.fst (Prod.snd (x.2.2))), AV.osl 1 1 0 (List.length (Prod.snd (Prod.snd (x.2.2))))] ∧ eqH [.box [AV.int .i64 (Tp.n n_5.1), AV.sl (List.length (Tp.ops n_5.1)) 4 (opG (Tp.ops n_5.1)), AV.sl (List.length (n_5.2.1)) 1 (ratG (n_5.2.1)), AV.int .i64 n_6.2], .arr 1 1 (zc 1 [AV.int .i64 k])] [.box [AV.int .i64 (Tp.n x.1), AV.sl (List.length (Tp.ops x.1)) 4 (opG (Tp.ops x.1)), AV.sl (List.length (x.2.1)) 1 (ratG (x.2.1)), AV.int .i64 (Prod.fst (x.2.2))], Blk.arrI .i64 (List.length (Prod.snd (Prod.snd (x.2.2)))) (dgF (Prod.snd (Prod.snd (x.2.2))))] ∧ 2 = 2 ∧ zf x.1 = 0 ∧ (↑(List.length (x.2.1)) : Int) = Tp.n x.1 ∧ allQ (x.2.1) ∧ errR (Prod.fst (Prod.snd (x.2.2))) = (0 : Int) ∧ (∀ (i : Int), i ∈ Prod.snd (Prod.snd (x.2.2)) → (0 : Int) ≤ i ∧ i < Tp.n x.1) ∧ List.length (Prod.snd (Prod.snd (x.2.2))) < 1099511627776) fun n_7 => .all (fun (r : List UInt8 × Int) => r = stpA (Prod.fst (n_7.2.2)) (atT n_7.1 (n_7.2.1) (Prod.fst (Prod.snd (n_7.2.2))) (Prod.snd (Prod.snd (n_7.2.2))))) fun n_8 => .ex (fun (x : Tp × List (List UInt8) × Int × Int × List UInt8 × List UInt8) => eqL [AV.ptr 0 0, AV.fn 24 [] [], AV.str n_4.1, AV.str n_6.1] [AV.ptr 0 0, AV.fn (opN (Prod.fst (Prod.snd (x.2.2)))) [] [], AV.str (Prod.fst (Prod.snd (Prod.snd (x.2.2)))), AV.str (Prod.snd (Prod.snd (Prod.snd (x.2.2))))] ∧ eqH [.box [AV.int .i64 (Tp.n n_7.1), AV.sl (List.length (Tp.ops n_7.1)) 4 (opG (Tp.ops n_7.1)), AV.sl (List.length (n_7.2.1)) 1 (ratG (n_7.2.1)), AV.int .i64 n_8.2]] [.box [AV.int .i64 (Tp.n x.1), AV.sl (List.length (Tp.ops x.1)) 4 (opG (Tp.ops x.1)), AV.sl (List.length (x.2.1)) 1 (ratG (x.2.1)), AV.int .i64 (Prod.fst (x.2.2))]] ∧ 1 = 1 ∧ (Prod.fst (Prod.snd (x.2.2)) = (3 : Int) ∨ Prod.fst (Prod.snd (x.2.2)) = (4 : Int) ∨ Prod.fst (Prod.snd (x.2.2)) = (5 : Int) ∨ Prod.fst (Prod.snd (x.2.2)) = (6 : Int)) ∧ List.length (Prod.fst (Prod.snd (Prod.snd (x.2.2)))) < 2305843009213693952 ∧ List.length (Prod.snd (Prod.snd (Prod.snd (x.2.2)))) < 2305843009213693952) fun n_9 => .all (fun (r : List UInt8 × Int) => r = stp (Prod.fst (n_9.2.2)) (arR (Prod.fst (Prod.snd (n_9.2.2)))) (Prod.fst (Prod.snd (Prod.snd (n_9.2.2)))) (Prod.snd (Prod.snd (Prod.snd (n_9.2.2))))) fun n_10 => .ex (fun (x : Tp × List (List UInt8) × Int × Int × List UInt8 × List UInt8) => eqL [AV.ptr 0 0, AV.fn 24 [] [], AV.str n_10.1, AV.str n_8.1] [AV.ptr 0 0, AV.fn (opN (Prod.fst (Prod.snd (x.2.2)))) [] [], AV.str (Prod.fst (Prod.snd (Prod.snd (x.2.2)))), AV.str (Prod.snd (Prod.snd (Prod.snd (x.2.2))))] ∧ eqH [.box [AV.int .i64 (Tp.n n_9.1), AV.sl (List.length (Tp.ops n_9.1)) 4 (opG (Tp.ops n_9.1)), AV.sl (List.length (n_9.2.1)) 1 (ratG (n_9.2.1)), AV.int .i64 n_10.2]] [.box [AV.int .i64 (Tp.n x.1), AV.sl (List.length (Tp.ops x.1)) 4 (opG (Tp.ops x.1)), AV.sl (List.length (x.2.1)) 1 (ratG (x.2.1)), AV.int .i64 (Prod.fst (x.2.2))]] ∧ 1 = 1 ∧ (Prod.fst (Prod.snd (x.2.2)) = (3 : Int) ∨ Prod.fst (Prod.snd (x.2.2)) = (4 : Int) ∨ Prod.fst (Prod.snd (x.2.2)) = (5 : Int) ∨ Prod.fst (Prod.snd (x.2.2)) = (6 : Int)) ∧ List.length (Prod.fst (Prod.snd (Prod.snd (x.2.2)))) < 2305843009213693952 ∧ List.length (Prod.snd (Prod.snd (Prod.snd (x.2.2)))) < 2305843009213693952) fun n_11 => .all (fun (r : List UInt8 × Int) => r = stp (Prod.fst (n_11.2.2)) (arR (Prod.fst (Prod.snd (n_11.2.2)))) (Prod.fst (Prod.snd (Prod.snd (n_11.2.2)))) (Prod.snd (Prod.snd (Prod.snd (n_11.2.2))))) fun n_12 => .ex (fun (x : Tp × List (List UInt8) × Int × Int × List UInt8 × List UInt8) => eqL [AV.ptr 0 0, AV.fn 23 [] [], AV.str n_12.1, AV.str v] [AV.ptr 0 0, AV.fn (opN (Prod.fst (Prod.snd (x.2.2)))) [] [], AV.str (Prod.fst (Prod.snd (Prod.snd (x.2.2)))), AV.str (Prod.snd (Prod.snd (Prod.snd (x.2.2))))] ∧ eqH [.box [AV.int .i64 (Tp.n n_11.1), AV.sl (List.length (Tp.ops n_11.1)) 4 (opG (Tp.ops n_11.1)), AV.sl (List.length (n_11.2.1)) 1 (ratG (n_11.2.1)), AV.int .i64 n_12.2]] [.box [AV.int .i64 (Tp.n x.1), AV.sl (List.length (Tp.ops x.1)) 4 (opG (Tp.ops x.1)), AV.sl (List.length (x.2.1)) 1 (ratG (x.2.1)), AV.int .i64 (Prod.fst (x.2.2))]] ∧ 1 = 1 ∧ (Prod.fst (Prod.snd (x.2.2)) = (3 : Int) ∨ Prod.fst (Prod.snd (x.2.2)) = (4 : Int) ∨ Prod.fst (Prod.snd (x.2.2)) = (5 : Int) ∨ Prod.fst (Prod.snd (x.2.2)) = (6 : Int)) ∧ List.length (Prod.fst (Prod.snd (Prod.snd (x.2.2)))) < 2305843009213693952 ∧ List.length (Prod.snd (Prod.snd (Prod.snd (x.2.2)))) < 2305843009213693952) fun n_13 => .all (fun (r : List UInt8 × Int) => r = stp (Prod.fst (n_13.2.2)) (arR (Prod.fst (Prod.snd (n_13.2.2)))) (Prod.fst (Prod.snd (Prod.snd (n_13.2.2)))) (Prod.snd (Prod.snd (Prod.snd (n_13.2.2))))) fun n_14 => .ex (fun (x : Tp × List (List UInt8) × Int × Int × List UInt8 × List UInt8) => eqL [AV.ptr 0 0, AV.fn 27 [] [], AV.str h, AV.str h] [AV.ptr 0 0, AV.fn (opN (Prod.fst (Prod.snd (x.2.2)))) [] [], AV.str (Prod.fst (Prod.snd (Prod.snd (x.2.2)))), AV.str (Prod.snd (Prod.snd (Prod.snd (x.2.2))))] ∧ eqH [.box [AV.int .i64 (Tp.n n_13.1), AV.sl (List.length (Tp.ops n_13.1)) 4 (opG (Tp.ops n_13.1)), AV.sl (List.length (n_13.2.1)) 1 (ratG (n_13.2.1)), AV.int .i64 n_14.2]] [.box [AV.int .i64 (Tp.n x.1), AV.sl (List.length (Tp.ops x.1)) 4 (opG (Tp.ops x.1)), AV.sl (List.length (x.2.1)) 1 (ratG (x.2.1)), AV.int .i64 (Prod.fst (x.2.2))]] ∧ 1 = 1 ∧ (Prod.fst (Prod.snd (x.2.2)) = (3 : Int) ∨ Prod.fst (Prod.snd (x.2.2)) = (4 : Int) ∨ Prod.fst (Prod.snd (x.2.2)) = (5 : Int) ∨ Prod.fst (Prod.snd (x.2.2)) = (6 : Int)) ∧ List.length (Prod.fst (Prod.snd (Prod.snd (x.2.2)))) < 2305843009213693952 ∧ List.length (Prod.snd (Prod.snd (Prod.snd (x.2.2)))) < 2305843009213693952) fun n_15 => .all (fun (r : List UInt8 × Int) => r = stp (Prod.fst (n_15.2.2)) (arR (Prod.fst (Prod.snd (n_15.2.2)))) (Prod.fst (Prod.snd (Prod.snd (n_15.2.2)))) (Prod.snd (Prod.snd (Prod.snd (n_15.2.2))))) fun n_16 => .leaf (.ret [.str n_14.1, .str n_16.1] [.box [.int .i64 (Tp.n n_15.1), .sl (List.length (Tp.ops n_15.1)) 4 (opG (Tp.ops n_15.1)), .sl (List.length (n_15.2.1)) 1 (ratG (n_15.2.1)), .int .i64 n_16.2], .box [.str h], .box [.int .i64 i], .box [.int .i64 k], Blk.arrI .i64 (List.length (Prod.snd (Prod.snd (n_7.2.2)))) (dgF (Prod.snd (Prod.snd (n_7.2.2)))), Blk.arrI .i64 (List.length (Prod.snd (Prod.snd (n_5.2.2)))) (dgF (Prod.snd (Prod.snd (n_5.2.2)))), Blk.arrI .i64 (List.length (Prod.snd (Prod.snd (n.2.2)))) (dgF (Prod.snd (Prod.snd (n.2.2))))]))))) (by kernel_rfl) ?_
 simp only [Tree.holds, zd]
 obtain ⟨v1, v2, v3, v4, v5⟩ := xx hv0
 rw [← hv] at v4
 have hl := qL he0
 have hlv := qL v4
 have hpl : ∀ x ∈ [i, k], 0 ≤ x ∧ x < n := by simp; omega
 have hpl1 : ∀ x ∈ [i], 0 ≤ x ∧ x < n := by simp; omega
 have hpl2 : ∀ x ∈ [k], 0 ≤ x ∧ x < n := by simp; omega
 repeat' (apply qo)
 all_goals (
  refine ⟨(⟨n, ops⟩, inp, 0, h, [i, k]), ⟨by simp, by simp [za]; exact Yf, trivial, v1, v2, v3, he0, hpl, by simp⟩, ⟨_, rfl⟩, ?_⟩
  intro a ha
  replace ha : a = stpA 0 (atT ⟨n, ops⟩ inp h [i, k]) := ha
  have ga : qG a := ha ▸ wY (wm he0 v1 v2 v3 hpl)
  have la := qi ga)
 repeat' (apply qo)
 all_goals (
  refine ⟨(⟨n, ops⟩, inp, a.2, h, [i]), ⟨by simp, by simp [za]; exact ZU, trivial, v1, v2, v3, he0, hpl1, by simp⟩, ⟨_, rfl⟩, ?_⟩
  intro b hb
  replace hb : b = stpA a.2 (atT ⟨n, ops⟩ inp h [i]) := hb
  have gb : qG b := hb ▸ wY (wm he0 v1 v2 v3 hpl1)
  have lb := qi gb)
 repeat' (apply qo)
 all_goals (
  refine ⟨(⟨n, ops⟩, inp, b.2, h, [k]), ⟨by simp, by simp [za]; exact ZU, trivial, v1, v2, v3, he0, hpl2, by simp⟩, ⟨_, rfl⟩, ?_⟩
  intro c hc
  replace hc : c = stpA b.2 (atT ⟨n, ops⟩ inp h [k]) := hc
  have gc : qG c := hc ▸ wY (wm he0 v1 v2 v3 hpl2)
  have lc := qi gc)
 repeat' (apply qo)
 all_goals (
  refine ⟨(⟨n, ops⟩, inp, c.2, 4, a.1, b.1), ⟨by simp [opN], by simp [za], trivial, .inr (.inl rfl), by show (a.1).length < _; omega, by show (b.1).length < _; omega⟩, ⟨_, rfl⟩, ?_⟩
  intro d hd
  replace hd : d = stp c.2 (arR 4) a.1 b.1 := hd
  have gd : qG d := hd ▸ qS (fun q => ⟨jt ga (xH (hb ▸ xH (hc ▸ q))), jt gb (xH (hc ▸ q))⟩)
  have ld := qi gd)
 repeat' (apply qo)
 all_goals (
  refine ⟨(⟨n, ops⟩, inp, d.2, 4, d.1, c.1), ⟨by simp [opN], by simp [za], trivial, .inr (.inl rfl), by show (d.1).length < _; omega, by show (c.1).length < _; omega⟩, ⟨_, rfl⟩, ?_⟩
  intro s hs
  replace hs : s = stp d.2 (arR 4) d.1 c.1 := hs
  have gs : qG s := hs ▸ qS (fun q => ⟨jt gd q, jt gc (Ux (hd ▸ q))⟩)
  have ls := qi gs)
 repeat' (apply qo)
 all_goals (
  refine ⟨(⟨n, ops⟩, inp, s.2, 3, s.1, v), ⟨by simp [opN], by simp [za], trivial, .inl rfl, by show (s.1).length < _; omega, by show (v).length < _; omega⟩, ⟨_, rfl⟩, ?_⟩
  intro t ht
  replace ht : t = stp s.2 (arR 3) s.1 v := ht
  have gt : qG t := ht ▸ qS (fun q => ⟨jt gs q, v4⟩)
  have lt := qi gt)
 repeat' (apply qo)
 all_goals (
  refine ⟨(⟨n, ops⟩, inp, t.2, 5, h, h), ⟨by simp [opN], by simp [za], trivial, .inr (.inr (.inl rfl)), by show (h).length < _; omega, by show (h).length < _; omega⟩, ⟨_, rfl⟩, ?_⟩
  intro u hu
  replace hu : u = stp t.2 (arR 5) h h := hu
  have gu : qG u := hu ▸ qS (fun q => ⟨he0, he0⟩)
  have lu := qi gu)
 repeat' (apply qo)
 all_goals (
  have ht2 : t = croE ⟨n, ops⟩ inp i k h := by
   rw [UG] at ha
   unfold croE croD croC croB croA
   rw [← hv, ← ha, ← hb, ← hc, ← arR4, ← hd, ← hs, ← arR3, ← ht]
  have hu2 : u = croF ⟨n, ops⟩ inp i k h := by
   unfold croF
   rw [← ht2, ← arR5, ← hu]
  have hq := hq (t, u) (by rw [ht2, hu2])
  exact RetR.keep [0, 1, 2, 3] rfl (by simp) (by show ∀ j, j < 4 → _; decide) rfl hq (by simp [resV, exp2, exp1, exp0, ren0, eqA2, eqL1]) (by simp [expH, expB, exp1, exp0, ren0, HCr, HDf, opS, ratS, za]) rfl)
def HB3 (h : List UInt8) (i k : Int) : Heap := [.arrI .i64 2 (dgF [i, k]), .box [.str h], .box [.int .i64 i], .box [.int .i64 k]]
def Vr : Ctr := ctrT false false (fun p : Tp × List (List UInt8) × List UInt8 × Int × Int => [p.1.av, ratS p.2.1, .str p.2.2.1, .osl 0 1 0 2, .fn 49 [] [.ptr 1 0, .ptr 2 0, .ptr 3 0]])
 (fun p => HB3 p.2.2.1 p.2.2.2.1 p.2.2.2.2)
 (fun p => zy p.1 ∧ zN p.2.1 ∧ p.2.2.1.length < 2 ^ 49) (fun p r => r = croT p.1 p.2.1 p.2.2.2.1 p.2.2.2.2 p.2.2.1)
 (fun p (r : List UInt8 × Int) => (.tup [.str r.1, .int .i64 r.2], HB3 p.2.2.1 p.2.2.2.1 p.2.2.2.2))
def SD3 (inp : List (List UInt8)) (h v : List UInt8) (j : Nat) : KV := [(1, ratS inp), (2, .str h), (4, .fn 49 [] [.ptr 1 0, .ptr 2 0, .ptr 3 0]), (5, .ptr 4 0), (12, .str v), (30, .osl 0 1 0 2), (31, .int .i64 2), (32, .int .i64 (j : Int))]
def HD3 (n : Int) (ops : List TOp) (h : List UInt8) (i k : Int) : Heap := [.arrI .i64 2 (dgF [i, k]), .box [.str h], .box [.int .i64 i], .box [.int .i64 k], .box [.int .i64 n, opS ops]]
noncomputable def GF3 : Nat → Option Ctr := fun f => if f = 12 then some (KT) else if f = 35 then some (bwI) else if f = 30 then some (ky) else if f = 49 then some (U6) else if f = 41 then some (ddoC) else none
theorem XW : ∀ g c, GF3 g = some c → ze Try.prog g c := okIf Kf (okIf VG (okIf wW (okIf Ue (okIf yH (zz)))))
theorem YJ : ze Try.prog 39 Vr := by
 refine jw (fn := Try.f39) (c := Try.f39.body.getD .skip) rfl rfl rfl (fun h => by cases h) fun p hp O w0 σ0 Q hl0 hq => ?_
 obtain ⟨⟨n, ops⟩, inp, h, i, k⟩ := p
 replace hq := hq _ rfl
 obtain ⟨h1, h2, h3⟩ := hp
 simp only at h1 h2 h3 hq
 refine zb.run hmix XW [1, 2, 4, 5, 12, 30, 31, 32] 400 (T := .ex (fun (x : Tp × List (List UInt8)) => eqL [AV.agg [AV.int .i64 n, AV.sl ops.length 4 (opG ops)], AV.sl inp.length 1 (ratG inp)] [AV.agg [AV.int .i64 (Tp.n x.1), AV.sl (List.length (Tp.ops x.1)) 4 (opG (Tp.ops x.1))], AV.sl x.2.length 1 (ratG x.2)] ∧ zy x.1 ∧ zN x.2) fun n_1 => .all (fun (r : List UInt8 × Int) => r = zw n_1.1 n_1.2) fun n_2 => .ite (!decide (n_2.2 = 0)) (.leaf (.ret [.str (Array.toList #[]), .int .i64 n_2.2] [Blk.arrI .i64 2 (dgF [i, k]), .box [.str h], .box [.int .i64 i], .box [.int .i64 k], .box [.int .i64 n, .sl ops.length 4 (opG ops)]])) (.leaf (.loop (Prod.fst (lps K39 0)) (Prod.snd (lps K39 0)) [(1, .sl inp.length 1 (ratG inp)), (2, .str h), (4, .fn 49 [] [.ptr 1 0, .ptr 2 0, .ptr 3 0]), (5, .ptr 4 0), (12, .str n_2.1), (30, .osl 0 1 0 2), (31, .int .i64 2), (32, .int .i64 0)] [Blk.arrI .i64 2 (dgF [i, k]), .box [.str h], .box [.int .i64 i], .box [.int .i64 k], .box [.int .i64 n, .sl ops.length 4 (opG ops)]]))) (by kernel_rfl) ?_
 simp only [Tree.holds, zd]
 generalize hF : croT ⟨n, ops⟩ inp i k h = F at hq
 have fin : ∀ (r : List UInt8 × Int) (b : Heap), F = r → RetR Vr 4 Q [.str r.1, .int .i64 r.2] ([.arrI .i64 2 (dgF [i, k]), .box [.str h], .box [.int .i64 i], .box [.int .i64 k]] ++ b) := by
  intro r b hr
  rw [hr] at hq
  exact RetR.keep [0, 1, 2, 3] rfl (by simp) (by show ∀ j, j < 4 → _; decide) rfl hq (by simp [resV, exp2, exp1, exp0, ren0, eqA2, eqL1]) (by simp [expH, expB, exp1, exp0, ren0, HB3, za]) rfl
 have bad : ∀ (e : Int) (b : Heap), begT ⟨n, ops⟩ inp [i, k] h = e → e ≠ 0 → RetR Vr 4 Q [.str [], .int .i64 e] ([.arrI .i64 2 (dgF [i, k]), .box [.str h], .box [.int .i64 i], .box [.int .i64 k]] ++ b) := by
  intro e b he he0
  refine fin ([], e) b ?_
  rw [← hF]
  unfold croT
  rw [he, if_pos he0]
 refine ⟨(⟨n, ops⟩, inp), ⟨by simp [za], h1, h2⟩, ⟨_, rfl⟩, ?_⟩
 intro v hv
 replace hv : v = zw ⟨n, ops⟩ inp := hv
 refine ⟨fun g => ?_, fun g => ?_⟩
 ·have g : v.2 ≠ 0 := by simpa using g
  exact bad _ [_] (by unfold begT; rw [← hv, if_pos g]) g
 have g : v.2 = 0 := by simpa using g
 have hbeg : begT ⟨n, ops⟩ inp [i, k] h = if qP ⟨n, ops⟩ [i, k] then (if errR h ≠ 0 then errR h else if h = [48] then 16 else 0) else 2 := by
  unfold begT; rw [← hv, if_neg (fun k => k g)]
 refine zb.loop (ι := {j : Nat // j ≤ 2 ∧ ∀ m, m < j → 0 ≤ dgF [i, k] m ∧ dgF [i, k] m < n}) (fun j => SD3 inp h v.1 j.1) (fun _ => HD3 n ops h i k) (fun j => 2 - j.1) ⟨0, Nat.zero_le _, fun j q => absurd q (Nat.not_lt_zero j)⟩ 0 ?_ ?_ (by kernel_rfl)
 ·exact ⟨by simp [SD3, ratS, za], by simp [HD3, opS, za], by kernel_rfl, by show 4 ≤ 4 + 1; decide⟩
 rintro ⟨j, hj, hjp⟩
 refine zb.run hmix XW [1, 2, 4, 5, 12, 30, 31, 32] 400 (T := .ite (decide ((↑j : Int) < 2)) (.side ((0 : Int) ≤ j ∧ (↑j : Int) < 2) (.ite (!bif decide ((0 : Int) ≤ dgF [i, k] (0 + Int.toNat (↑j : Int))) then decide (dgF [i, k] (0 + Int.toNat (↑j : Int)) < n) else false) (.leaf (.ret [.str (Array.toList #[]), .int .i64 2] [Blk.arrI .i64 2 (dgF [i, k]), .box [.str h], .box [.int .i64 i], .box [.int .i64 k], .box [.int .i64 n, .sl ops.length 4 (opG ops)]])) (.side (inR .i64 ((↑j : Int) + (1 : Int))) (.leaf (.back 0 [(1, .sl inp.length 1 (ratG inp)), (2, .str h), (4, .fn 49 [] [.ptr 1 0, .ptr 2 0, .ptr 3 0]), (5, .ptr 4 0), (12, .str v.1), (30, .osl 0 1 0 2), (31, .int .i64 2), (32, .int .i64 ((↑j : Int) + (1 : Int)))] [Blk.arrI .i64 2 (dgF [i, k]), .box [.str h], .box [.int .i64 i], .box [.int .i64 k], .box [.int .i64 n, .sl ops.length 4 (opG ops)]]))))) (.ex (fun (x : List UInt8) => eqL [AV.str h] [AV.str x] ∧ x.length < 4611686018427387904) fun n_1 => .all (fun (r : Int) => r = errR n_1) fun n_2 => .ite (!decide (n_2 = 0)) (.leaf (.ret [.str (Array.toList #[]), .int .i64 n_2] [Blk.arrI .i64 2 (dgF [i, k]), .box [.str h], .box [.int .i64 i], .box [.int .i64 k], .box [.int .i64 n, .sl ops.length 4 (opG ops)]])) (.ite (decide (h = Array.toList #[(48 : UInt8)])) (.leaf (.ret [.str (Array.toList #[]), .int .i64 16] [Blk.arrI .i64 2 (dgF [i, k]), .box [.str h], .box [.int .i64 i], .box [.int .i64 k], .box [.int .i64 n, .sl ops.length 4 (opG ops)]])) (.ex (fun (x : XCr) => eqL [AV.ptr 0 0, AV.str v.1, AV.ptr 1 0, AV.ptr 2 0, AV.ptr 3 0] [AV.ptr 0 0, AV.str (XCr.v x), AV.ptr 1 0, AV.ptr 2 0, AV.ptr 3 0] ∧ eqH [.box [AV.int .i64 n, AV.sl ops.length 4 (opG ops), AV.sl inp.length 1 (ratG inp), AV.int .i64 0], .box [AV.str h], .box [AV.int .i64 i], .box [AV.int .i64 k]] [.box [AV.int .i64 (Tp.n (XCr.t x)), AV.sl (List.length (Tp.ops (XCr.t x))) 4 (opG (Tp.ops (XCr.t x))), AV.sl (List.length (XCr.inp x)) 1 (ratG (XCr.inp x)), AV.int .i64 0], .box [AV.str (XCr.h x)], .box [AV.int .i64 (XCr.i x)], .box [AV.int .i64 (XCr.k x)]] ∧ 4 = 4 ∧ XCr.v x = Prod.fst (zw (XCr.t x) (XCr.inp x)) ∧ Prod.snd (zw (XCr.t x) (XCr.inp x)) = (0 : Int) ∧ errR (XCr.h x) = (0 : Int) ∧ (0 : Int) ≤ XCr.i x ∧ XCr.i x < Tp.n (XCr.t x) ∧ (0 : Int) ≤ XCr.k x ∧ XCr.k x < Tp.n (XCr.t x)) fun n_3 => .all (fun (r : (List UInt8 × Int) × List UInt8 × Int) => r = (croE (XCr.t n_3) (XCr.inp n_3) (XCr.i n_3) (XCr.k n_3) (XCr.h n_3), croF (XCr.t n_3) (XCr.inp n_3) (XCr.i n_3) (XCr.k n_3) (XCr.h n_3))) fun n_4 => .ex (fun (x : Tp × List (List UInt8) × Int × Int × List UInt8 × List UInt8) => eqL [AV.ptr 0 0, AV.fn 62 [] [], AV.str (n_4.1.1), AV.str (n_4.2.1)] [AV.ptr 0 0, AV.fn (opN (Prod.fst (Prod.snd (x.2.2)))) [] [], AV.str (Prod.fst (Prod.snd (Prod.snd (x.2.2)))), AV.str (Prod.snd (Prod.snd (Prod.snd (x.2.2))))] ∧ eqH [.box [AV.int .i64 (Tp.n (XCr.t n_3)), AV.sl (List.length (Tp.ops (XCr.t n_3))) 4 (opG (Tp.ops (XCr.t n_3))), AV.sl (List.length (XCr.inp n_3)) 1 (ratG (XCr.inp n_3)), AV.int .i64 (n_4.2.2)]] [.box [AV.int .i64 (Tp.n x.1), AV.sl (List.length (Tp.ops x.1)) 4 (opG (Tp.ops x.1)), AV.sl (List.length (x.2.1)) 1 (ratG (x.2.1)), AV.int .i64 (Prod.fst (x.2.2))]] ∧ 1 = 1 ∧ (Prod.fst (Prod.snd (x.2.2)) = (3 : Int) ∨ Prod.fst (Prod.snd (x.2.2)) = (4 : Int) ∨ Prod.fst (Prod.snd (x.2.2)) = (5 : Int) ∨ Prod.fst (Prod.snd (x.2.2)) = (6 : Int)) ∧ List.length (Prod.fst (Prod.snd (Prod.snd (x.2.2)))) < 2305843009213693952 ∧ List.length (Prod.snd (Prod.snd (Prod.snd (x.2.2)))) < 2305843009213693952) fun n_5 => .all (fun (r : List UInt8 × Int) => r = stp (Prod.fst (n_5.2.2)) (arR (Prod.fst (Prod.snd (n_5.2.2)))) (Prod.fst (Prod.snd (Prod.snd (n_5.2.2)))) (Prod.snd (Prod.snd (Prod.snd (n_5.2.2))))) fun n_6 => .ite (!decide (n_6.2 = 0)) (.leaf (.ret [.str (Array.toList #[]), .int .i64 n_6.2] [Blk.arrI .i64 2 (dgF [i, k]), .box [.str (XCr.h n_3)], .box [.int .i64 (XCr.i n_3)], .box [.int .i64 (XCr.k n_3)], .box [.int .i64 n, .sl ops.length 4 (opG ops)], .box [.int .i64 (Tp.n n_5.1), .sl (List.length (Tp.ops n_5.1)) 4 (opG (Tp.ops n_5.1)), .sl (List.length (n_5.2.1)) 1 (ratG (n_5.2.1)), .int .i64 n_6.2]])) (.leaf (.ret [.str n_6.1, .int .i64 0] [Blk.arrI .i64 2 (dgF [i, k]), .box [.str (XCr.h n_3)], .box [.int .i64 (XCr.i n_3)], .box [.int .i64 (XCr.k n_3)], .box [.int .i64 n, .sl ops.length 4 (opG ops)], .box [.int .i64 (Tp.n n_5.1), .sl (List.length (Tp.ops n_5.1)) 4 (opG (Tp.ops n_5.1)), .sl (List.length (n_5.2.1)) 1 (ratG (n_5.2.1)), .int .i64 n_6.2]])))))) (by kernel_rfl) ?_
 simp only [Tree.holds, zd, inR, lo, hi, Int.toNat_natCast, Nat.zero_add]
 refine ⟨fun hlt => ?_, fun hge => ?_⟩
 ·have hlt : j < 2 := by have := of_decide_eq_true hlt; omega
  refine ⟨by omega, fun _ => ⟨fun g2 => ?_, fun g2 => ⟨by omega, fun _ => ?_⟩⟩⟩
  ·refine bad 2 [_] ?_ (by decide)
   rw [hbeg, if_neg]
   intro g3
   have g3 := yw.1 g3 j hlt
   rw [decide_eq_true g3.1, decide_eq_true g3.2] at g2
   cases g2
  ·rw [if_pos trivial]
   have g3 : 0 ≤ dgF [i, k] j ∧ dgF [i, k] j < n := UE g2
   refine ⟨⟨j + 1, hlt, fun m hm => ?_⟩, by show 2 - (j + 1) < 2 - j; omega, by simp [SD3, ratS, za], by simp [HD3, opS, za], by kernel_rfl, by show 4 ≤ 4 + 1; decide⟩
   rcases Nat.lt_or_ge m j with q | q
   ·exact hjp m q
   ·exact (show m = j by omega) ▸ g3
 have hj1 : j = 2 := by have := of_decide_eq_false hge; omega
 subst hj1
 have hplB : qP ⟨n, ops⟩ [i, k] = true := yw.2 hjp
 have hpl := JQ hplB
 rw [if_pos hplB] at hbeg
 refine ⟨h, ⟨by simp, by omega⟩, ⟨_, rfl⟩, ?_⟩
 intro e he
 replace he : e = errR h := he
 rw [← he] at hbeg
 refine ⟨fun g2 => ?_, fun g2 => ?_⟩
 ·have g2 : e ≠ 0 := by simpa using g2
  exact bad _ [_] (by rw [hbeg, if_pos g2]) g2
 have g2 : e = 0 := by simpa using g2
 rw [if_neg (fun q => q g2)] at hbeg
 refine ⟨fun g4 => ?_, fun g4 => ?_⟩
 ·exact bad _ [_] (by rw [hbeg, if_pos (of_decide_eq_true g4)]) (by decide)
 rw [if_neg (of_decide_eq_false g4)] at hbeg
 obtain ⟨v1, v2, v3, v4, v5⟩ := xx (hv ▸ g)
 have v4' := v4
 rw [← hv] at v4
 have he0 : errR h = 0 := he ▸ g2
 have hl := qL he0
 have hlv := qL v4
 refine ⟨⟨⟨n, ops⟩, inp, h, i, k, v.1⟩, ⟨by simp, by simp [HCr, HDf, opS, ratS, za], trivial, by rw [hv], hv ▸ g, he0, (hpl i (by simp)).1, (hpl i (by simp)).2, (hpl k (by simp)).1, (hpl k (by simp)).2⟩, ⟨_, rfl⟩, ?_⟩
 intro r hr
 replace hr : r = (croE ⟨n, ops⟩ inp i k h, croF ⟨n, ops⟩ inp i k h) := hr
 obtain ⟨hr1, hr2⟩ := YB he0 v1 v2 v3 v4' (hpl i (by simp)) (hpl k (by simp))
 have hr1 := qi hr1
 have hr2 := qi hr2
 rw [← show r.1 = croE ⟨n, ops⟩ inp i k h by rw [hr]] at hr1
 rw [← show r.2 = croF ⟨n, ops⟩ inp i k h by rw [hr]] at hr2
 refine ⟨(⟨n, ops⟩, inp, r.2.2, 6, r.1.1, r.2.1), ⟨by simp [opN], by simp [za], trivial, .inr (.inr (.inr rfl)), by show (r.1.1).length < _; omega, by show (r.2.1).length < _; omega⟩, ⟨_, rfl⟩, ?_⟩
 intro w hw
 replace hw : w = stp r.2.2 (arR 6) r.1.1 r.2.1 := hw
 have hFw : F = endR w := by
  rw [← hF]
  unfold croT
  rw [hr] at hw
  rw [if_neg (fun q => q hbeg), ← arR6, ← hw]
 unfold endR at hFw
 refine ⟨fun g5 => ?_, fun g5 => ?_⟩
 ·have g5 : w.2 ≠ 0 := by simpa using g5
  rw [if_pos g5] at hFw
  exact fin ([], w.2) _ hFw
 ·have g5 : w.2 = 0 := by simpa using g5
  rw [if_neg (fun q => q g5)] at hFw
  exact fin (w.1, 0) _ hFw
def croC : Ctr := ctrP true (fun p : Tp × List (List UInt8) × Int × Int × List UInt8 => [p.1.av, ratS p.2.1, .int .i64 p.2.2.1, .int .i64 p.2.2.2.1, .str p.2.2.2.2])
 (fun p => zy p.1 ∧ zN p.2.1 ∧ p.2.2.2.2.length < 2 ^ 49) (fun p r => r = croT p.1 p.2.1 p.2.2.1 p.2.2.2.1 p.2.2.2.2)
 (fun p (r : List UInt8 × Int) => (.tup [.str r.1, .int .i64 r.2], []))
noncomputable def GG3 : Nat → Option Ctr := fun f => if f = 39 then some (Vr) else none
theorem za1 : ∀ g c, GG3 g = some c → ze Try.prog g c := okIf YJ (zz)
theorem UX : ze Try.prog 26 croC := by
 refine zr (fn := Try.f26) (c := Try.f26.body.getD .skip) rfl rfl rfl fun p hp O w0 Q hq => ?_
 obtain ⟨⟨n, ops⟩, inp, i, k, h⟩ := p
 replace hq := hq _ rfl
 simp only at hp hq
 refine zb.run hmix za1 [] 400 (T := .ex (fun (x : Tp × List (List UInt8) × List UInt8 × Int × Int) => eqL [AV.agg [AV.int .i64 n, AV.sl ops.length 4 (opG ops)], AV.sl inp.length 1 (ratG inp), AV.str h, AV.osl 0 1 0 2, AV.fn 49 [] [AV.ptr 1 0, AV.ptr 2 0, AV.ptr 3 0]] [AV.agg [AV.int .i64 (Tp.n x.1), AV.sl (List.length (Tp.ops x.1)) 4 (opG (Tp.ops x.1))], AV.sl (List.length (x.2.1)) 1 (ratG (x.2.1)), AV.str (Prod.fst (x.2.2)), AV.osl 0 1 0 2, AV.fn 49 [] [AV.ptr 1 0, AV.ptr 2 0, AV.ptr 3 0]] ∧ eqH [.arr 2 1 (zc 1 [AV.int .i64 i, AV.int .i64 k]), .box [AV.str h], .box [AV.int .i64 i], .box [AV.int .i64 k]] [Blk.arrI .i64 2 (dgF [Prod.fst (Prod.snd (x.2.2)), Prod.snd (Prod.snd (x.2.2))]), .box [AV.str (Prod.fst (x.2.2))], .box [AV.int .i64 (Prod.fst (Prod.snd (x.2.2)))], .box [AV.int .i64 (Prod.snd (Prod.snd (x.2.2)))]] ∧ 4 = 4 ∧ zy x.1 ∧ zN (x.2.1) ∧ List.length (Prod.fst (x.2.2)) < 562949953421312) fun n_1 => .all (fun (r : List UInt8 × Int) => r = croT n_1.1 (n_1.2.1) (Prod.fst (Prod.snd (n_1.2.2))) (Prod.snd (Prod.snd (n_1.2.2))) (Prod.fst (n_1.2.2))) fun n_2 => .leaf (.ret [.str n_2.1, .int .i64 n_2.2] [.box [.int .i64 n, .sl ops.length 4 (opG ops)], .box [.int .i64 (Prod.fst (Prod.snd (n_1.2.2)))], .box [.int .i64 (Prod.snd (Prod.snd (n_1.2.2)))], .box [.str (Prod.fst (n_1.2.2))], Blk.arrI .i64 2 (dgF [Prod.fst (Prod.snd (n_1.2.2)), Prod.snd (Prod.snd (n_1.2.2))])])) (by kernel_rfl) ?_
 simp only [Tree.holds, zd]
 refine ⟨(⟨n, ops⟩, inp, h, i, k), ⟨by simp [za], by simp [HB3]; exact Yf, by simp [HB3], hp⟩, ⟨_, rfl⟩, ?_⟩
 rintro _ rfl
 exact RetR.scal hq rfl (by simp [resV])
end Go.Proofs.Try
end

/- The chapter's example. -/
section
set_option maxRecDepth 100000
open Go Go.Sx Go.Proofs Go.Nov
namespace Go.Proofs.Try
attribute [local simp] eqKV eqA eqA0 eqH eqB eqL eqL0
noncomputable def Uy : Ctr := inlC Try.prog noG 100 Try.f38
theorem YT : ze Try.prog 38 Uy := vI hmix zG rfl rfl
noncomputable def isI : Ctr := inlC Try.prog noG 100 Try.f25
theorem Us : ze Try.prog 25 isI := vI hmix zG rfl rfl
def wV : Tp := ⟨2, [⟨1, 0, 0, []⟩, ⟨1, 1, 0, []⟩, ⟨5, 0, 1, []⟩]⟩
theorem al1 : z3 wV [[51], [53]] 0 [49, 47, 50] = ([53], 0) := by decide +kernel
theorem al2 : z3 wV [[51], [53]] 1 [49, 47, 50] = ([51], 0) := by decide +kernel
theorem al3 : croT wV [[51], [53]] 0 1 [49, 47, 50] = ([49], 0) := by decide +kernel
theorem al4 : degT wV 0 = (1, 0) := by decide +kernel
theorem al5 : degT wV 1 = (1, 0) := by decide +kernel
theorem UW : eqG 3 4 (zh (zc 4 [.int .u8 1, .int .i64 0, .int .i64 0, .str [], .int .u8 1, .int .i64 1, .int .i64 0, .str [], .int .u8 5, .int .i64 0, .int .i64 1, .str []]) 0) (opG wV.ops) := by
 intro j o hj ho
 rcases (show j = 0 ∨ j = 1 ∨ j = 2 by omega) with rfl | rfl | rfl <;> rcases (show o = 0 ∨ o = 1 ∨ o = 2 ∨ o = 3 by omega) with rfl | rfl | rfl | rfl <;> rfl
theorem uI : zy wV := by
 refine ⟨by decide, fun j hj => ?_⟩
 have hj : j < 3 := hj
 rcases (show j = 0 ∨ j = 1 ∨ j = 2 by omega) with rfl | rfl | rfl <;> (show ([] : List UInt8).length < 2 ^ 60; decide)
def inR2 : List (List UInt8) := [[51], [53]]
theorem in_G : eqG 2 1 (zh (zc 1 [.str [51], .str [53]]) 0) (ratG inR2) := by
 intro j o hj ho
 obtain rfl : o = 0 := by omega
 rcases (show j = 0 ∨ j = 1 by omega) with rfl | rfl <;> rfl
theorem in_s : zN inR2 := by
 refine ⟨by decide, fun j hj => ?_⟩
 have hj : j < 2 := hj
 rcases (show j = 0 ∨ j = 1 by omega) with rfl | rfl <;> (show ([0] : List UInt8).length < 2 ^ 60; decide)
def Yh : Ctr := ctrP true (fun _ : Unit => []) (fun _ => True) (fun _ r => r = true) (fun _ (r : Bool) => (.bool r, []))
noncomputable def GA1 : Nat → Option Ctr := fun f => if f = 38 then some (Uy) else if f = 21 then some (KZ) else if f = 26 then some (croC) else if f = 14 then some (Uu) else if f = 25 then some (isI) else none
theorem U9 : ∀ g c, GA1 g = some c → ze Try.prog g c := okIf YT (okIf VZ (okIf UX (okIf Uj (okIf Us (zz)))))
theorem Yp : ze Try.prog 20 Yh := by
 refine zr (fn := Try.f20) (c := Try.f20.body.getD .skip) rfl rfl rfl fun p hp O w0 Q hq => ?_
 replace hq := hq _ rfl
 refine zb.run hmix U9 [] 400 (T := .ex (fun (x : Tp × List (List UInt8) × Int × List UInt8) => eqL [AV.agg [AV.int .i64 2, AV.sl 3 4 (zh (zc 4 [AV.int .u8 1, AV.int .i64 0, AV.int .i64 0, AV.str (Array.toList #[]), AV.int .u8 1, AV.int .i64 1, AV.int .i64 0, AV.str (Array.toList #[]), AV.int .u8 5, AV.int .i64 0, AV.int .i64 1, AV.str (Array.toList #[])]) 0)], AV.sl 2 1 (zh (zc 1 [AV.str (Array.toList #[(51 : UInt8)]), AV.str (Array.toList #[(53 : UInt8)])]) 0), AV.int .i64 0, AV.str (Array.toList #[(49 : UInt8), (47 : UInt8), (50 : UInt8)])] [AV.agg [AV.int .i64 (Tp.n x.1), AV.sl (List.length (Tp.ops x.1)) 4 (opG (Tp.ops x.1))], AV.sl (List.length (x.2.1)) 1 (ratG (x.2.1)), AV.int .i64 (Prod.fst (x.2.2)), AV.str (Prod.snd (x.2.2))] ∧ zy x.1 ∧ zN (x.2.1) ∧ List.length (Prod.snd (x.2.2)) < 562949953421312) fun n => .all (fun (r : List UInt8 × Int) => r = z3 n.1 (n.2.1) (Prod.fst (n.2.2)) (Prod.snd (n.2.2))) fun n => .ex (fun (x : Tp × List (List UInt8) × Int × List UInt8) => eqL [AV.agg [AV.int .i64 2, AV.sl 3 4 (zh (zc 4 [AV.int .u8 1, AV.int .i64 0, AV.int .i64 0, AV.str (Array.toList #[]), AV.int .u8 1, AV.int .i64 1, AV.int .i64 0, AV.str (Array.toList #[]), AV.int .u8 5, AV.int .i64 0, AV.int .i64 1, AV.str (Array.toList #[])]) 0)], AV.sl 2 1 (zh (zc 1 [AV.str (Array.toList #[(51 : UInt8)]), AV.str (Array.toList #[(53 : UInt8)])]) 0), AV.int .i64 1, AV.str (Array.toList #[(49 : UInt8), (47 : UInt8), (50 : UInt8)])] [AV.agg [AV.int .i64 (Tp.n x.1), AV.sl (List.length (Tp.ops x.1)) 4 (opG (Tp.ops x.1))], AV.sl (List.length (x.2.1)) 1 (ratG (x.2.1)), AV.int .i64 (Prod.fst (x.2.2)), AV.str (Prod.snd (x.2.2))] ∧ zy x.1 ∧ zN (x.2.1) ∧ List.length (Prod.snd (x.2.2)) < 562949953421312) fun n_1 => .all (fun (r : List UInt8 × Int) => r = z3 n_1.1 (n_1.2.1) (Prod.fst (n_1.2.2)) (Prod.snd (n_1.2.2))) fun n_2 => .ex (fun (x : Tp × List (List UInt8) × Int × Int × List UInt8) => eqL [AV.agg [AV.int .i64 2, AV.sl 3 4 (zh (zc 4 [AV.int .u8 1, AV.int .i64 0, AV.int .i64 0, AV.str (Array.toList #[]), AV.int .u8 1, AV.int .i64 1, AV.int .i64 0, AV.str (Array.toList #[]), AV.int .u8 5, AV.int .i64 0, AV.int .i64 1, AV.str (Array.toList #[])]) 0)], AV.sl 2 1 (zh (zc 1 [AV.str (Array.toList #[(51 : UInt8)]), AV.str (Array.toList #[(53 : UInt8)])]) 0), AV.int .i64 0, AV.int .i64 1, AV.str (Array.toList #[(49 : UInt8), (47 : UInt8), (50 : UInt8)])] [AV.agg [AV.int .i64 (Tp.n x.1), AV.sl (List.length (Tp.ops x.1)) 4 (opG (Tp.ops x.1))], AV.sl (List.length (x.2.1)) 1 (ratG (x.2.1)), AV.int .i64 (Prod.fst (x.2.2)), AV.int .i64 (Prod.fst (Prod.snd (x.2.2))), AV.str (Prod.snd (Prod.snd (x.2.2)))] ∧ zy x.1 ∧ zN (x.2.1) ∧ List.length (Prod.snd (Prod.snd (x.2.2))) < 562949953421312) fun n_3 => .all (fun (r : List UInt8 × Int) => r = croT n_3.1 (n_3.2.1) (Prod.fst (n_3.2.2)) (Prod.fst (Prod.snd (n_3.2.2))) (Prod.snd (Prod.snd (n_3.2.2)))) fun n_4 => .ex (fun (x : Tp × Int) => eqL [AV.agg [AV.int .i64 2, AV.sl 3 4 (zh (zc 4 [AV.int .u8 1, AV.int .i64 0, AV.int .i64 0, AV.str (Array.toList #[]), AV.int .u8 1, AV.int .i64 1, AV.int .i64 0, AV.str (Array.toList #[]), AV.int .u8 5, AV.int .i64 0, AV.int .i64 1, AV.str (Array.toList #[])]) 0)], AV.int .i64 0] [AV.agg [AV.int .i64 (Tp.n x.1), AV.sl (List.length (Tp.ops x.1)) 4 (opG (Tp.ops x.1))], AV.int .i64 x.2] ∧ zy x.1) fun n_5 => .all (fun (r : Int × Int) => r = degT n_5.1 n_5.2) fun n_6 => .ex (fun (x : Tp × Int) => eqL [AV.agg [AV.int .i64 2, AV.sl 3 4 (zh (zc 4 [AV.int .u8 1, AV.int .i64 0, AV.int .i64 0, AV.str (Array.toList #[]), AV.int .u8 1, AV.int .i64 1, AV.int .i64 0, AV.str (Array.toList #[]), AV.int .u8 5, AV.int .i64 0, AV.int .i64 1, AV.str (Array.toList #[])]) 0)], AV.int .i64 1] [AV.agg [AV.int .i64 (Tp.n x.1), AV.sl (List.length (Tp.ops x.1)) 4 (opG (Tp.ops x.1))], AV.int .i64 x.2] ∧ zy x.1) fun n_7 => .all (fun (r : Int × Int) => r = degT n_7.1 n_7.2) fun n_8 => .leaf (.ret [.bool (bif bif bif bif bif bif bif decide (n.2 = 0) then decide (n.1 = Array.toList #[(53 : UInt8)]) else false then bif decide (n_2.2 = 0) then decide (n_2.1 = Array.toList #[(51 : UInt8)]) else false else false then bif decide (n_4.2 = 0) then decide (n_4.1 = Array.toList #[(49 : UInt8)]) else false else false then decide (n_6.2 = 0) else false then decide (n_6.1 = 1) else false then decide (n_8.2 = 0) else false then decide (n_8.1 = 1) else false)] [.arr 2 1 (zc 1 [.str (Array.toList #[(51 : UInt8)]), .str (Array.toList #[(53 : UInt8)])]), .box [.int .i64 2, .osl 2 4 0 3], .arr 3 4 (zc 4 [.int .u8 1, .int .i64 0, .int .i64 0, .str (Array.toList #[]), .int .u8 1, .int .i64 1, .int .i64 0, .str (Array.toList #[]), .int .u8 5, .int .i64 0, .int .i64 1, .str (Array.toList #[])]), .box [.int .i64 2, .osl 4 4 0 3], .arr 3 4 (zc 4 [.int .u8 1, .int .i64 0, .int .i64 0, .str (Array.toList #[]), .int .u8 1, .int .i64 1, .int .i64 0, .str (Array.toList #[]), .int .u8 5, .int .i64 0, .int .i64 1, .str (Array.toList #[])]), .box [.int .i64 2, .osl 6 4 0 3], .arr 3 4 (zc 4 [.int .u8 1, .int .i64 0, .int .i64 0, .str (Array.toList #[]), .int .u8 1, .int .i64 1, .int .i64 0, .str (Array.toList #[]), .int .u8 5, .int .i64 0, .int .i64 1, .str (Array.toList #[])]), .box [.int .i64 2, .osl 8 4 0 3], .arr 3 4 (zc 4 [.int .u8 1, .int .i64 0, .int .i64 0, .str (Array.toList #[]), .int .u8 1, .int .i64 1, .int .i64 0, .str (Array.toList #[]), .int .u8 5, .int .i64 0, .int .i64 1, .str (Array.toList #[])]), .box [.int .i64 2, .osl 10 4 0 3], .arr 3 4 (zc 4 [.int .u8 1, .int .i64 0, .int .i64 0, .str (Array.toList #[]), .int .u8 1, .int .i64 1, .int .i64 0, .str (Array.toList #[]), .int .u8 5, .int .i64 0, .int .i64 1, .str (Array.toList #[])])])) (by kernel_rfl) ?_
 simp only [Tree.holds, zd]
 have e1 : eqL [.agg [.int .i64 2, .sl 3 4 (zh (zc 4 [.int .u8 1, .int .i64 0, .int .i64 0, .str [], .int .u8 1, .int .i64 1, .int .i64 0, .str [], .int .u8 5, .int .i64 0, .int .i64 1, .str []]) 0)]] [wV.av] := ⟨⟨⟨rfl, rfl⟩, ⟨rfl, rfl, UW⟩, trivial⟩, trivial⟩
 refine ⟨(wV, inR2, 0, [49, 47, 50]), ⟨⟨e1.1, ⟨rfl, rfl, in_G⟩, ⟨rfl, rfl⟩, rfl, trivial⟩, uI, in_s, by decide⟩, ⟨_, rfl⟩, ?_⟩
 intro r1 g1
 refine ⟨(wV, inR2, 1, [49, 47, 50]), ⟨⟨e1.1, ⟨rfl, rfl, in_G⟩, ⟨rfl, rfl⟩, rfl, trivial⟩, uI, in_s, by decide⟩, ⟨_, rfl⟩, ?_⟩
 intro r2 g2
 refine ⟨(wV, inR2, 0, 1, [49, 47, 50]), ⟨⟨e1.1, ⟨rfl, rfl, in_G⟩, ⟨rfl, rfl⟩, ⟨rfl, rfl⟩, rfl, trivial⟩, uI, in_s, by decide⟩, ⟨_, rfl⟩, ?_⟩
 intro r3 g3
 refine ⟨(wV, 0), ⟨⟨e1.1, ⟨rfl, rfl⟩, trivial⟩, uI⟩, ⟨_, rfl⟩, ?_⟩
 intro r4 g4
 refine ⟨(wV, 1), ⟨⟨e1.1, ⟨rfl, rfl⟩, trivial⟩, uI⟩, ⟨_, rfl⟩, ?_⟩
 intro r5 g5
 replace g1 : r1 = ([53], 0) := g1.trans al1
 replace g2 : r2 = ([51], 0) := g2.trans al2
 replace g3 : r3 = ([49], 0) := g3.trans al3
 replace g4 : r4 = (1, 0) := g4.trans al4
 replace g5 : r5 = (1, 0) := g5.trans al5
 subst g1 g2 g3 g4 g5
 exact RetR.scal hq rfl (by simp [resV])
end Go.Proofs.Try
end

/- The reference's integers: what its sums and products of digits mean. -/
section
namespace Go.Nov
end Go.Nov
end

/- Cutting a piece of code at a place that is not a loop's head. -/
section
namespace Go.Sx
variable [Stat]
section
variable {O : Nat → Prop} {pin : Nat} {w0 : World} {σ0 : List SE} {P : Program} {fn : Func}
def fstC : Code → Code
 | .seq a _ => a
 | c => c
def sndC : Code → Code
 | .seq _ b => b
 | c => c
def blkC : Code → Code
 | .block _ c => c
 | c => c
def blkI : Code → Nat
 | .block i _ => i
 | _ => 0
theorem zb.cut {M : Option Nat} {ι : Type} {Hs : Nat → KV → Heap → Prop} {R : List AV → Heap → Prop} {k : List Item} {c : Code} {st : St} (S : ι → KV) (H : ι → Heap) (dk : Nat)
  (h1 : qa M P fn O pin w0 σ0 (fun d kv h => if d = dk then ∃ x, LeK pin fn.ntmps kv h (S x) (H x) else Hs d kv h) R (.code c :: .inLoop :: k) st) (hd : jL k = dk)
  (h2 : ∀ x, qa M P fn O pin w0 σ0 Hs R k (mk fn.ntmps (S x) (H x))) : qa M P fn O pin w0 σ0 Hs R (.code c :: k) st := by
 subst hd
 intro w σ a hm
 have := h1 w σ a hm
 simp only [wpK] at this ⊢
 refine wpIn_mono this fun e a' w' he => ?_
 cases e with
 | normal =>
  simp only [wpK] at he
  obtain ⟨st', σ', ⟨kv, h, hh, rfl⟩, hm'⟩ := he
  rw [if_pos trivial] at hh
  obtain ⟨x, hle⟩ := hh
  exact h2 x w' _ a' (hle.le.mod hm')
 | _ =>
  simp only [wpK] at he
  refine qQ (fun d a w hd hh => ?_) he
  obtain ⟨st', σ', ⟨kv, h, hh, rfl⟩, hm'⟩ := hh
  rw [if_neg (by omega)] at hh
  exact ⟨_, σ', ⟨kv, h, hh, rfl⟩, hm'⟩
theorem zb.seq {M : Option Nat} {Hs : Nat → KV → Heap → Prop} {R : List AV → Heap → Prop} {k : List Item} {c : Code} {st : St} (hc : c = .seq (fstC c) (sndC c))
  (h : qa M P fn O pin w0 σ0 Hs R (.code (fstC c) :: .code (sndC c) :: k) st) : qa M P fn O pin w0 σ0 Hs R (.code c :: k) st := by
 rw [hc]
 generalize fstC c = a at h
 generalize sndC c = b at h
 intro w σ act hm
 have := h w σ act hm
 simp only [wpK] at this ⊢
 refine wpIn_seq (wpIn_mono this fun e a w h => ?_)
 cases e <;> exact h
theorem zb.block {M : Option Nat} {Hs : Nat → KV → Heap → Prop} {R : List AV → Heap → Prop} {k : List Item} {c : Code} {st : St} (hc : c = .block (blkI c) (blkC c))
  (h : qa M P fn O pin w0 σ0 Hs R (.code (blkC c) :: .inBlock (blkI c) :: k) st) : qa M P fn O pin w0 σ0 Hs R (.code c :: k) st := by
 rw [hc]
 generalize blkC c = a at h
 generalize blkI c = i at h
 intro w σ act hm
 have := h w σ act hm
 simp only [wpK] at this ⊢
 refine wpIn_block (wpIn_mono this fun e a w h => ?_)
 cases e <;> exact h
end
end Go.Sx
end

/- The reference's integers: sums and products of digits. -/
section
set_option maxRecDepth 100000
open Go Go.Sx Go.Proofs Go.Nov
namespace Go.Proofs.Try
attribute [local simp] eqKV eqA eqA0 eqH eqB eqL eqL0
end Go.Proofs.Try
end

/- The reference's integers: sums, products, quotients, comparisons. -/
section
set_option maxRecDepth 100000
open Go Go.Sx Go.Proofs Go.Nov
namespace Go.Proofs.Try
attribute [local simp] eqKV eqA eqA0 eqH eqB eqL eqL0
end Go.Proofs.Try
end

/- The reference's rationals. -/
section
set_option maxRecDepth 100000
open Go Go.Sx Go.Proofs Go.Nov
namespace Go.Proofs.Try
attribute [local simp] eqKV eqA eqA0 eqH eqB eqL eqL0
structure Q4 where
 n : List UInt8
 d : List UInt8
 m : List UInt8
 c : List UInt8
 e : Int
structure QF where
 n : List UInt8
 d : List UInt8
 e : Int
 f : Int
end Go.Proofs.Try
end

/- The reference's tapes: checks, runs. -/
section
set_option maxRecDepth 100000
open Go Go.Sx Go.Proofs Go.Nov
namespace Go.Proofs.Try
attribute [local simp] eqKV eqA eqA0 eqH eqB eqL eqL0
end Go.Proofs.Try
end

/- The reference's tapes: runs with their checks, values, degrees; comparisons, bounds. -/
section
set_option maxRecDepth 100000
open Go Go.Sx Go.Proofs Go.Nov
namespace Go.Proofs.Try
attribute [local simp] eqKV eqA eqA0 eqH eqB eqL eqL0
noncomputable def K8 : List Go.Sx.Item := [.code (Try.f8.body.getD .skip)]
theorem VE (l : List TOp) (j o : Nat) (ho : o < 4) : qc (opG l j o) = true := by
 match o, ho with
 | 0, _ => rfl
 | 1, _ => rfl
 | 2, _ => rfl
 | 3, _ => rfl
def Jv (t : Tp) (l : List (List UInt8)) : Prop := t.ops.length ≤ 520 ∧ (t.ops.length ≤ 60 ∨ 500 < t.ops.length) ∧ l.length ≤ 60 ∧ (∀ j, j < t.ops.length → (t.ops.getD j TOp.nil).rat.length ≤ 200) ∧ ∀ j, j < l.length → (l.getD j []).length ≤ 200
def VN : Ctr := ctrP true (fun p : Tp × List (List UInt8) => [p.1.av, ratS p.2]) (fun p => zy p.1 ∧ zN p.2) (fun p r => r = false → Jv p.1 p.2) (fun _ (r : Bool) => (.bool r, []))
def StGr (m : List (List UInt8)) (i : Nat) : KV := [(1, ratS m), (2, .ptr 0 0), (5, .int .i64 (i : Int)), (6, .undef)]
def HtGr (n : Int) (l : List TOp) : Heap := [.box [.int .i64 n, opS l]]
def StGs (m : List (List UInt8)) (i : Nat) : KV := [(1, ratS m), (2, .undef), (5, .undef), (6, .int .i64 (i : Int))]
theorem Kv : ze Try.prog 8 VN := by
 refine zr (fn := Try.f8) (c := Try.f8.body.getD .skip) rfl rfl rfl fun p hp O w0 Q hq => ?_
 obtain ⟨⟨n, l⟩, m⟩ := p
 obtain ⟨h1, h2⟩ := hp
 simp only at h1 h2 hq
 refine zb.run hmix zG [1, 2, 5, 6] 400 (T := .ite (bif bif bif decide ((60 : Int) < l.length) then decide ((↑l.length : Int) ≤ 500) else false then true else decide ((520 : Int) < l.length) then true else decide ((60 : Int) < m.length)) (.leaf (.ret [.bool true] [.box [.int .i64 n, .sl l.length 4 (opG l)]])) (.leaf (.loop (Prod.fst (lps K8 0)) (Prod.snd (lps K8 0)) [(1, .sl m.length 1 (ratG m)), (2, .ptr 0 0), (5, .int .i64 0), (6, .undef)] [.box [.int .i64 n, .sl l.length 4 (opG l)]]))) (by kernel_rfl) ?_
 simp only [Tree.holds, zd]
 refine ⟨fun h => RetR.scal (hq true (fun g => by cases g)) rfl (by simp [resV]), fun h => ?_⟩
 simp only [orf] at h
 have hfit : l.length ≤ 520 ∧ (l.length ≤ 60 ∨ 500 < l.length) ∧ m.length ≤ 60 := by
  obtain ⟨⟨ha, hb⟩, hc⟩ := h
  have hb := of_decide_eq_false hb
  have hc := of_decide_eq_false hc
  refine ⟨by omega, ?_, by omega⟩
  by_cases g : l.length ≤ 60
  ·exact .inl g
  ·rw [decide_eq_true (show (60 : Int) < l.length by omega)] at ha
   have ha : ¬ ((l.length : Int) ≤ 500) := by simpa using ha
   exact .inr (by omega)
 refine zb.loop (ι := {i : Nat // i ≤ l.length ∧ ∀ j, j < i → (l.getD j TOp.nil).rat.length ≤ 200}) (fun i => StGr m i.1) (fun _ => HtGr n l) (fun i => l.length - i.1) ⟨0, Nat.zero_le _, fun j q => absurd q (Nat.not_lt_zero j)⟩ 0 ?_ ?_ (by kernel_rfl)
 ·exact ⟨by simp [StGr, ratS, za], by simp [HtGr, opS, za], by kernel_rfl, Nat.zero_le _⟩
 rintro ⟨i, hil, hie⟩
 refine zb.run hmix zG [1, 2, 5, 6] 400 (T := .ite (decide ((↑i : Int) < l.length)) (.side ((0 : Int) ≤ i ∧ (↑i : Int) < l.length) (.ite (decide ((200 : Int) < (↑(List.length (TOp.rat (List.getD l (Int.toNat (↑i : Int)) TOp.nil))) : Int))) (.leaf (.ret [.bool true] [.box [.int .i64 n, .sl l.length 4 (opG l)]])) (.side (inR .i64 ((↑i : Int) + (1 : Int))) (.leaf (.back 0 [(1, .sl m.length 1 (ratG m)), (2, .ptr 0 0), (5, .int .i64 ((↑i : Int) + (1 : Int))), (6, .undef)] [.box [.int .i64 n, .sl l.length 4 (opG l)]]))))) (.leaf (.loop (Prod.fst (lps (inside K8 0) 0)) (Prod.snd (lps (inside K8 0) 0)) [(1, .sl m.length 1 (ratG m)), (2, .ptr 0 0), (5, .int .i64 i), (6, .int .i64 0)] [.box [.int .i64 n, .sl l.length 4 (opG l)]]))) (by kernel_rfl) ?_
 simp only [Tree.holds, zd, inR, lo, hi, Int.toNat_natCast, Nat.zero_add]
 refine ⟨fun hlt => ?_, fun hge => ?_⟩
 ·have hlt : i < l.length := by have := of_decide_eq_true hlt; omega
  refine ⟨by omega, fun _ => ⟨fun _ => RetR.scal (hq true (fun g => by cases g)) rfl (by simp [resV]), fun h3 => ⟨by omega, fun _ => ?_⟩⟩⟩
  rw [if_pos trivial]
  have h3 := of_decide_eq_false h3
  refine ⟨⟨i + 1, hlt, fun j hj => ?_⟩, by show l.length - (i + 1) < l.length - i; omega, by simp [StGr, ratS, za], by simp [HtGr, opS, za], by kernel_rfl, Nat.zero_le _⟩
  rcases Nat.lt_or_ge j i with g | g
  ·exact hie j g
  ·obtain rfl : j = i := by omega
   omega
 have hge : i = l.length := by have := of_decide_eq_false hge; omega
 subst hge
 refine zb.loop (ι := {i : Nat // i ≤ m.length ∧ ∀ j, j < i → (m.getD j []).length ≤ 200}) (fun i => StGs m i.1) (fun _ => []) (fun i => m.length - i.1) ⟨0, Nat.zero_le _, fun j q => absurd q (Nat.not_lt_zero j)⟩ 0 ?_ ?_ (by kernel_rfl)
 ·exact ⟨by simp [StGs, ratS, za], by simp, by kernel_rfl, Nat.zero_le _⟩
 rintro ⟨i, hil, hif⟩
 refine zb.run hmix zG [1, 2, 5, 6] 400 (T := .ite (decide ((↑i : Int) < m.length)) (.side ((0 : Int) ≤ i ∧ (↑i : Int) < m.length) (.ite (decide ((200 : Int) < (↑(List.length (List.getD m (Int.toNat (↑i : Int)) [])) : Int))) (.leaf (.ret [.bool true] [])) (.side (inR .i64 ((↑i : Int) + (1 : Int))) (.leaf (.back 0 [(1, .sl m.length 1 (ratG m)), (2, .undef), (5, .undef), (6, .int .i64 ((↑i : Int) + (1 : Int)))] []))))) (.leaf (.ret [.bool false] []))) (by kernel_rfl) ?_
 simp only [Tree.holds, zd, inR, lo, hi, Int.toNat_natCast, Nat.zero_add]
 refine ⟨fun hlt => ?_, fun hge => ?_⟩
 ·have hlt : i < m.length := by have := of_decide_eq_true hlt; omega
  refine ⟨by omega, fun _ => ⟨fun _ => RetR.scal (hq true (fun g => by cases g)) rfl (by simp [resV]), fun h3 => ⟨by omega, fun _ => ?_⟩⟩⟩
  rw [if_pos trivial]
  have h3 := of_decide_eq_false h3
  refine ⟨⟨i + 1, hlt, fun j hj => ?_⟩, by show m.length - (i + 1) < m.length - i; omega, by simp [StGs, ratS, za], by simp, by kernel_rfl, Nat.zero_le _⟩
  rcases Nat.lt_or_ge j i with g | g
  ·exact hif j g
  ·obtain rfl : j = i := by omega
   omega
 ·have hge : i = m.length := by have := of_decide_eq_false hge; omega
  subst hge
  exact RetR.scal (hq false (fun _ => ⟨hfit.1, hfit.2.1, hfit.2.2, hie, hif⟩)) rfl (by simp [resV])
end Go.Proofs.Try
end

/- The law of second differences. -/
section
set_option maxRecDepth 100000
open Go Go.Sx Go.Proofs Go.Nov
namespace Go.Proofs.Try
attribute [local simp] eqKV eqA eqA0 eqH eqB eqL eqL0
end Go.Proofs.Try
end

/- The law of changes. -/
section
set_option maxRecDepth 100000
open Go Go.Sx Go.Proofs Go.Nov
namespace Go.Proofs.Try
attribute [local simp] eqKV eqA eqA0 eqH eqB eqL eqL0
end Go.Proofs.Try
end

/- Tapes joined; the law of sums. -/
section
set_option maxRecDepth 100000
open Go Go.Sx Go.Proofs Go.Nov
namespace Go.Proofs.Try
attribute [local simp] eqKV eqA eqA0 eqH eqB eqL eqL0
noncomputable def K22 : List Go.Sx.Item := [.code (Try.f22.body.getD .skip)]
def VM : Ctr := ctrP true (fun p : Int × Tp × Tp => [.int .u8 p.1, p.2.1.av, p.2.2.av]) (fun p => zf p.2.1 = 0 ∧ zf p.2.2 = 0) (fun _ (_ : Unit) => True) (fun p (_ : Unit) => ((zH p.1 p.2.1 p.2.2).av, []))
theorem xy {g : Nat → Nat → AV} : zh g 0 = g := by funext j o; simp [zh]
theorem yD {l : List TOp} {o : TOp} : eqG (l.length + 1) 4 (appG l.length (opG l) (zh (zc 4 [.int .u8 o.kind, .int .i64 o.a, .int .i64 o.b, .str o.rat]) 0)) (opG (l ++ [o])) := by
 intro j p hj hp
 simp only [appG, opG, zh, zc]
 by_cases q : j < l.length
 ·rw [if_pos q]
  simp only [List.getD, List.getElem?_append_left q]
 ·rw [if_neg q]
  obtain rfl : j = l.length := by omega
  have e : (l ++ [o]).getD l.length TOp.nil = o := by simp [List.getD]
  rw [e]
  rcases (show p = 0 ∨ p = 1 ∨ p = 2 ∨ p = 3 by omega) with rfl | rfl | rfl | rfl <;> simp [TOp.cell]
def jl (a b : List TOp) (i : Nat) : List TOp := a ++ (b.take i).map (shO a.length)
theorem Wy {a b : List TOp} {i : Nat} (h : i ≤ b.length) : (jl a b i).length = a.length + i := by simp [jl, h]
theorem VV {a b : List TOp} {i : Nat} (h : i < b.length) : jl a b (i + 1) = jl a b i ++ [shO a.length (b.getD i TOp.nil)] := by
 unfold jl
 have e : b.getD i TOp.nil = b[i] := by simp [List.getD, h]
 rw [List.take_add_one, List.getElem?_eq_getElem h, Option.toList_some, List.map_append, e, List.append_assoc]
 rfl
def SJo1 (k : Int) (x i : Nat) : KV := [(0, .int .u8 k), (5, .ptr 1 0), (6, .ptr 2 0), (7, .ptr 4 0), (8, .int .i64 (x : Int)), (9, .int .i64 (i : Int))]
def HJo1 (n m : Int) (a b : List TOp) (i : Nat) : Heap := [.box [.int .i64 n, opS a], .box [.int .i64 m, opS b], .box [.int .i64 0, .nils], .arr (jl a b i).length 4 (opG (jl a b i)), .box [.int .i64 n, .osl 3 4 0 (jl a b i).length]]
def SJo2 (k : Int) (x i : Nat) : KV := [(0, .int .u8 k), (5, .ptr 1 0), (6, .ptr 2 0), (7, .ptr 3 0), (8, .int .i64 (x : Int)), (9, .int .i64 (i : Int))]
def HJo2 (n m : Int) (a b : List TOp) (i : Nat) : Heap := [.box [.int .i64 n, opS a], .box [.int .i64 m, opS b], .box [.int .i64 0, .nils], .box [.int .i64 n, .osl 4 4 0 (jl a b i).length], .arr (jl a b i).length 4 (opG (jl a b i))]
theorem YF : ze Try.prog 22 VM := by
 refine zr (fn := Try.f22) (c := Try.f22.body.getD .skip) rfl rfl rfl fun p hp O w0 Q hq => ?_
 obtain ⟨k, ⟨n, a⟩, ⟨m, b⟩⟩ := p
 replace hq := hq () trivial
 obtain ⟨h1, h2⟩ := hp
 simp only at h1 h2 hq
 refine zb.run hmix zG [0, 5, 6, 7, 8, 9] 400 (T := .all (fun (x : Bool) => True) fun n_1 => .ite n_1 (.all (fun (x : Bool) => True) fun n_2 => .ite n_2 (.side (0 = 0 ∧ 0 ≤ 0 ∧ (0 + a.length) * 40 ≤ 140737488355328) (.leaf (.loop (Prod.fst (lps K22 0)) (Prod.snd (lps K22 0)) [(0, .int .u8 k), (5, .ptr 1 0), (6, .ptr 2 0), (7, .ptr 4 0), (8, .int .i64 a.length), (9, .int .i64 0)] [.box [.int .i64 n, .sl a.length 4 (opG a)], .box [.int .i64 m, .sl b.length 4 (opG b)], .box [.int .i64 0, .nils], .arr (0 + a.length) 4 (appG 0 (zc 4 []) (opG a)), .box [.int .i64 n, .osl 3 4 0 (0 + a.length)]]))) (.side (0 = 0 ∧ 0 ≤ 0 ∧ (0 + a.length) * 40 ≤ 140737488355328) (.leaf (.loop (Prod.fst (lps K22 0)) (Prod.snd (lps K22 0)) [(0, .int .u8 k), (5, .ptr 1 0), (6, .ptr 2 0), (7, .ptr 4 0), (8, .int .i64 a.length), (9, .int .i64 0)] [.box [.int .i64 n, .sl a.length 4 (opG a)], .box [.int .i64 m, .sl b.length 4 (opG b)], .box [.int .i64 0, .nils], .arr (0 + a.length) 4 (appG 0 (zc 4 []) (opG a)), .box [.int .i64 n, .osl 3 4 0 (0 + a.length)]])))) (.side (0 = 0 ∧ 0 ≤ 0 ∧ (0 + a.length) * 40 ≤ 140737488355328) (.leaf (.loop (Prod.fst (lps K22 0)) (Prod.snd (lps K22 0)) [(0, .int .u8 k), (5, .ptr 1 0), (6, .ptr 2 0), (7, .ptr 3 0), (8, .int .i64 a.length), (9, .int .i64 0)] [.box [.int .i64 n, .sl a.length 4 (opG a)], .box [.int .i64 m, .sl b.length 4 (opG b)], .box [.int .i64 0, .nils], .box [.int .i64 n, .osl 4 4 0 (0 + a.length)], .arr (0 + a.length) 4 (appG 0 (zc 4 []) (opG a))])))) (by kernel_rfl) ?_
 simp only [Tree.holds, zd]
 obtain ⟨c1, c2, c3, c4, c5⟩ := zV.1 h1
 obtain ⟨d1, d2, d3, d4, d5⟩ := zV.1 h2
 simp only at c1 c2 c3 c4 c5 d1 d2 d3 d4 d5
 have e0 : eqG (0 + a.length) 4 (appG 0 (zc 4 []) (opG a)) (opG (jl a b 0)) := fun j o _ _ => by simp [appG, jl]
 have l0 : (jl a b 0).length = a.length := by rw [Wy (Nat.zero_le _)]; rfl
 have key1 : zb Try.prog Try.f22 O 0 w0 [] (fun _ _ _ => False) (RetR VM 0 Q) (.code (.loop (lps K22 0).1) :: (lps K22 0).2) (mk Try.f22.ntmps (SJo1 k a.length 0) [.box [.int .i64 n, opS a], .box [.int .i64 m, opS b], .box [.int .i64 0, .nils], .arr (0 + a.length) 4 (appG 0 (zc 4 []) (opG a)), .box [.int .i64 n, .osl 3 4 0 (0 + a.length)]]) := by
  refine zb.loop (ι := {i : Nat // i ≤ b.length}) (fun i => SJo1 k a.length i.1) (fun i => HJo1 n m a b i.1) (fun i => b.length - i.1) ⟨0, Nat.zero_le _⟩ 0 ?_ ?_ (by kernel_rfl)
  ·exact ⟨by simp [SJo1], ⟨by simp [opS, za], by simp [opS, za], by simp, ⟨by rw [l0]; omega, rfl, e0⟩, by simp [l0], trivial⟩, by kernel_rfl, Nat.zero_le _⟩
  rintro ⟨i, hib⟩
  refine zb.run hmix zG [0, 5, 6, 7, 8, 9] 400 (T := .ite (decide ((↑i : Int) < b.length)) (.side ((0 : Int) ≤ i ∧ (↑i : Int) < b.length) (.ite (decide ((3 : Int) ≤ TOp.kind (List.getD b (Int.toNat (↑i : Int)) TOp.nil))) (.side (inR .i64 (TOp.a (List.getD b (Int.toNat (↑i : Int)) TOp.nil) + (↑a.length : Int))) (.side (inR .i64 (TOp.b (List.getD b (Int.toNat (↑i : Int)) TOp.nil) + (↑a.length : Int))) (.side (0 = 0 ∧ List.length (jl a b i) ≤ List.length (jl a b i) ∧ (List.length (jl a b i) + 1) * 40 ≤ 140737488355328) (.side (inR .i64 ((↑i : Int) + (1 : Int))) (.leaf (.back 0 [(0, .int .u8 k), (5, .ptr 1 0), (6, .ptr 2 0), (7, .ptr 4 0), (8, .int .i64 a.length), (9, .int .i64 ((↑i : Int) + (1 : Int)))] [.box [.int .i64 n, .sl a.length 4 (opG a)], .box [.int .i64 m, .sl b.length 4 (opG b)], .box [.int .i64 0, .nils], .arr (List.length (jl a b i) + 1) 4 (appG (jl a b i).length (opG (jl a b i)) (zh (zc 4 [.int .u8 (TOp.kind (List.getD b (Int.toNat (↑i : Int)) TOp.nil)), .int .i64 (TOp.a (List.getD b (Int.toNat (↑i : Int)) TOp.nil) + (↑a.length : Int)), .int .i64 (TOp.b (List.getD b (Int.toNat (↑i : Int)) TOp.nil) + (↑a.length : Int)), .str (TOp.rat (List.getD b (Int.toNat (↑i : Int)) TOp.nil))]) 0)), .box [.int .i64 n, .osl 3 4 0 (List.length (jl a b i) + 1)], .box [.int .u8 (TOp.kind (List.getD b (Int.toNat (↑i : Int)) TOp.nil)), .int .i64 (TOp.a (List.getD b (Int.toNat (↑i : Int)) TOp.nil) + (↑a.length : Int)), .int .i64 (TOp.b (List.getD b (Int.toNat (↑i : Int)) TOp.nil) + (↑a.length : Int)), .str (TOp.rat (List.getD b (Int.toNat (↑i : Int)) TOp.nil))], .arr 1 4 (zc 4 [.int .u8 (TOp.kind (List.getD b (Int.toNat (↑i : Int)) TOp.nil)), .int .i64 (TOp.a (List.getD b (Int.toNat (↑i : Int)) TOp.nil) + (↑a.length : Int)), .int .i64 (TOp.b (List.getD b (Int.toNat (↑i : Int)) TOp.nil) + (↑a.length : Int)), .str (TOp.rat (List.getD b (Int.toNat (↑i : Int)) TOp.nil))])])))))) (.side (0 = 0 ∧ List.length (jl a b i) ≤ List.length (jl a b i) ∧ (List.length (jl a b i) + 1) * 40 ≤ 140737488355328) (.side (inR .i64 ((↑i : Int) + (1 : Int))) (.leaf (.back 0 [(0, .int .u8 k), (5, .ptr 1 0), (6, .ptr 2 0), (7, .ptr 4 0), (8, .int .i64 a.length), (9, .int .i64 ((↑i : Int) + (1 : Int)))] [.box [.int .i64 n, .sl a.length 4 (opG a)], .box [.int .i64 m, .sl b.length 4 (opG b)], .box [.int .i64 0, .nils], .arr (List.length (jl a b i) + 1) 4 (appG (jl a b i).length (opG (jl a b i)) (zh (zc 4 [.int .u8 (TOp.kind (List.getD b (Int.toNat (↑i : Int)) TOp.nil)), .int .i64 (TOp.a (List.getD b (Int.toNat (↑i : Int)) TOp.nil)), .int .i64 (TOp.b (List.getD b (Int.toNat (↑i : Int)) TOp.nil)), .str (TOp.rat (List.getD b (Int.toNat (↑i : Int)) TOp.nil))]) 0)), .box [.int .i64 n, .osl 3 4 0 (List.length (jl a b i) + 1)], .box [.int .u8 (TOp.kind (List.getD b (Int.toNat (↑i : Int)) TOp.nil)), .int .i64 (TOp.a (List.getD b (Int.toNat (↑i : Int)) TOp.nil)), .int .i64 (TOp.b (List.getD b (Int.toNat (↑i : Int)) TOp.nil)), .str (TOp.rat (List.getD b (Int.toNat (↑i : Int)) TOp.nil))], .arr 1 4 (zc 4 [.int .u8 (TOp.kind (List.getD b (Int.toNat (↑i : Int)) TOp.nil)), .int .i64 (TOp.a (List.getD b (Int.toNat (↑i : Int)) TOp.nil)), .int .i64 (TOp.b (List.getD b (Int.toNat (↑i : Int)) TOp.nil)), .str (TOp.rat (List.getD b (Int.toNat (↑i : Int)) TOp.nil))])])))))) (.side (inR .i64 ((↑a.length : Int) - (1 : Int))) (.side (inR .i64 ((↑a.length : Int) + b.length)) (.side (inR .i64 ((↑a.length : Int) + b.length - (1 : Int))) (.side (0 = 0 ∧ List.length (jl a b i) ≤ List.length (jl a b i) ∧ (List.length (jl a b i) + 1) * 40 ≤ 140737488355328) (.leaf (.ret [.agg [.int .i64 n, .osl 3 4 0 (List.length (jl a b i) + 1)]] [.box [.int .i64 n, .sl a.length 4 (opG a)], .box [.int .i64 m, .sl b.length 4 (opG b)], .box [.int .i64 n, .osl 3 4 0 (List.length (jl a b i) + 1)], .arr (List.length (jl a b i) + 1) 4 (appG (jl a b i).length (opG (jl a b i)) (zh (zc 4 [.int .u8 k, .int .i64 ((↑a.length : Int) - (1 : Int)), .int .i64 ((↑a.length : Int) + b.length - (1 : Int)), .str (Array.toList #[])]) 0)), .box [.int .i64 n, .osl 3 4 0 (List.length (jl a b i) + 1)], .arr 1 4 (zc 4 [.int .u8 k, .int .i64 ((↑a.length : Int) - (1 : Int)), .int .i64 ((↑a.length : Int) + b.length - (1 : Int)), .str (Array.toList #[])])]))))))) (by kernel_rfl) ?_
  simp only [Tree.holds, zd, inR, lo, hi, Int.toNat_natCast, Nat.zero_add]
  have hl : (jl a b i).length = a.length + i := Wy hib
  refine ⟨fun hlt => ?_, fun hge => ?_⟩
  ·have hlt : i < b.length := by have := of_decide_eq_true hlt; omega
   have hok := vQ d5 hlt
   simp only at hok
   obtain ⟨o, ho⟩ : ∃ o, b.getD i TOp.nil = o := ⟨_, rfl⟩
   have hs := VV (a := a) hlt
   rw [ho] at hok hs
   simp only [ho]
   have hk := qR hok
   have hn : (jl a b (i + 1)).length = (jl a b i).length + 1 := by rw [hs]; simp
   have fin : ∀ (o' : TOp) (b' : Heap), shO a.length o = o' → (True ∧ (jl a b i).length ≤ (jl a b i).length ∧ ((jl a b i).length + 1) * 40 ≤ 140737488355328) ∧ (True ∧ (jl a b i).length ≤ (jl a b i).length ∧ ((jl a b i).length + 1) * 40 ≤ 140737488355328 → (-9223372036854775808 ≤ (i : Int) + 1 ∧ (i : Int) + 1 ≤ 9223372036854775807) ∧ (-9223372036854775808 ≤ (i : Int) + 1 ∧ (i : Int) + 1 ≤ 9223372036854775807 → if True then
     ∃ x' : {i : Nat // i ≤ b.length}, b.length - x'.1 < b.length - i ∧ LeK 0 Try.f22.ntmps [(0, .int .u8 k), (5, .ptr 1 0), (6, .ptr 2 0), (7, .ptr 4 0), (8, .int .i64 (a.length : Int)), (9, .int .i64 ((i : Int) + 1))] (([.box [.int .i64 n, opS a], .box [.int .i64 m, opS b], .box [.int .i64 0, .nils], .arr ((jl a b i).length + 1) 4 (appG (jl a b i).length (opG (jl a b i)) (zh (zc 4 [.int .u8 o'.kind, .int .i64 o'.a, .int .i64 o'.b, .str o'.rat]) 0)), .box [.int .i64 n, .osl 3 4 0 ((jl a b i).length + 1)]] : Heap) ++ b') (SJo1 k a.length x'.1) (HJo1 n m a b x'.1) else False)) := by
    rintro _ b' rfl
    refine ⟨⟨trivial, Nat.le_refl _, by omega⟩, fun _ => ⟨by omega, fun _ => ?_⟩⟩
    rw [if_pos trivial]
    refine ⟨⟨i + 1, hlt⟩, by show b.length - (i + 1) < b.length - i; omega, by simp [SJo1], ?_, by kernel_rfl, Nat.zero_le _⟩
    simp only [HJo1, List.cons_append]
    exact ⟨by simp [opS, za], by simp [opS, za], by simp, ⟨hn.symm, rfl, by rw [hs]; exact yD⟩, by simp [hn], by cases b' <;> trivial⟩
   refine ⟨by omega, fun _ => ⟨fun g => ⟨by omega, fun _ => ⟨by omega, fun _ => ?_⟩⟩, fun g => ?_⟩⟩
   ·exact fin ⟨o.kind, o.a + a.length, o.b + a.length, o.rat⟩ [_, _] (by unfold shO; rw [if_pos (of_decide_eq_true g)])
   ·exact fin o [_, _] (by unfold shO; rw [if_neg (of_decide_eq_false g)])
  ·have hge : i = b.length := by have := of_decide_eq_false hge; omega
   subst hge
   refine ⟨by omega, fun _ => ⟨by omega, fun _ => ⟨by omega, fun _ => ⟨⟨trivial, Nat.le_refl _, by omega⟩, fun _ => ?_⟩⟩⟩⟩
   have hj : (zH k ⟨n, a⟩ ⟨m, b⟩).ops = jl a b b.length ++ [⟨k, (a.length : Int) - 1, (a.length : Int) + b.length - 1, []⟩] := by
    unfold zH jl
    rw [List.take_length]
   have hg := yD (l := jl a b b.length) (o := ⟨k, (a.length : Int) - 1, (a.length : Int) + b.length - 1, []⟩)
   refine RetR.out0 hq (fun _ => ?_) ?_
   ·simp only [resV, new2, new1, List.mem_cons, List.not_mem_nil, or_false, forall_eq_or_imp, forall_eq]
    refine ⟨rfl, fun _ => ?_⟩
    simp only [exp0, z0, frz1, jr, List.getElem?_cons_succ, List.getElem?_cons_zero, if_true, Vy]
    intro j o hj ho
    rw [xy, hg j o hj ho]
    exact VE _ _ _ ho
   ·simp only [resV, exp2, exp1, List.map_cons, List.map_nil]
    refine ⟨⟨rfl, rfl⟩, ?_, trivial⟩
    simp only [exp0, z0, frz1, jr, List.getElem?_cons_succ, List.getElem?_cons_zero, if_true]
    refine ⟨by rw [hj]; simp, rfl, ?_⟩
    rw [xy, hj]
    exact hg
 have key2 : zb Try.prog Try.f22 O 0 w0 [] (fun _ _ _ => False) (RetR VM 0 Q) (.code (.loop (lps K22 0).1) :: (lps K22 0).2) (mk Try.f22.ntmps (SJo2 k a.length 0) [.box [.int .i64 n, opS a], .box [.int .i64 m, opS b], .box [.int .i64 0, .nils], .box [.int .i64 n, .osl 4 4 0 (0 + a.length)], .arr (0 + a.length) 4 (appG 0 (zc 4 []) (opG a))]) := by
  refine zb.loop (ι := {i : Nat // i ≤ b.length}) (fun i => SJo2 k a.length i.1) (fun i => HJo2 n m a b i.1) (fun i => b.length - i.1) ⟨0, Nat.zero_le _⟩ 0 ?_ ?_ (by kernel_rfl)
  ·exact ⟨by simp [SJo2], ⟨by simp [opS, za], by simp [opS, za], by simp, by simp [l0], ⟨by rw [l0]; omega, rfl, e0⟩, trivial⟩, by kernel_rfl, Nat.zero_le _⟩
  rintro ⟨i, hib⟩
  refine zb.run hmix zG [0, 5, 6, 7, 8, 9] 400 (T := .ite (decide ((↑i : Int) < b.length)) (.side ((0 : Int) ≤ i ∧ (↑i : Int) < b.length) (.ite (decide ((3 : Int) ≤ TOp.kind (List.getD b (Int.toNat (↑i : Int)) TOp.nil))) (.side (inR .i64 (TOp.a (List.getD b (Int.toNat (↑i : Int)) TOp.nil) + (↑a.length : Int))) (.side (inR .i64 (TOp.b (List.getD b (Int.toNat (↑i : Int)) TOp.nil) + (↑a.length : Int))) (.side (0 = 0 ∧ List.length (jl a b i) ≤ List.length (jl a b i) ∧ (List.length (jl a b i) + 1) * 40 ≤ 140737488355328) (.side (inR .i64 ((↑i : Int) + (1 : Int))) (.leaf (.back 0 [(0, .int .u8 k), (5, .ptr 1 0), (6, .ptr 2 0), (7, .ptr 3 0), (8, .int .i64 a.length), (9, .int .i64 ((↑i : Int) + (1 : Int)))] [.box [.int .i64 n, .sl a.length 4 (opG a)], .box [.int .i64 m, .sl b.length 4 (opG b)], .box [.int .i64 0, .nils], .box [.int .i64 n, .osl 4 4 0 (List.length (jl a b i) + 1)], .arr (List.length (jl a b i) + 1) 4 (appG (jl a b i).length (opG (jl a b i)) (zh (zc 4 [.int .u8 (TOp.kind (List.getD b (Int.toNat (↑i : Int)) TOp.nil)), .int .i64 (TOp.a (List.getD b (Int.toNat (↑i : Int)) TOp.nil) + (↑a.length : Int)), .int .i64 (TOp.b (List.getD b (Int.toNat (↑i : Int)) TOp.nil) + (↑a.length : Int)), .str (TOp.rat (List.getD b (Int.toNat (↑i : Int)) TOp.nil))]) 0)), .box [.int .u8 (TOp.kind (List.getD b (Int.toNat (↑i : Int)) TOp.nil)), .int .i64 (TOp.a (List.getD b (Int.toNat (↑i : Int)) TOp.nil) + (↑a.length : Int)), .int .i64 (TOp.b (List.getD b (Int.toNat (↑i : Int)) TOp.nil) + (↑a.length : Int)), .str (TOp.rat (List.getD b (Int.toNat (↑i : Int)) TOp.nil))], .arr 1 4 (zc 4 [.int .u8 (TOp.kind (List.getD b (Int.toNat (↑i : Int)) TOp.nil)), .int .i64 (TOp.a (List.getD b (Int.toNat (↑i : Int)) TOp.nil) + (↑a.length : Int)), .int .i64 (TOp.b (List.getD b (Int.toNat (↑i : Int)) TOp.nil) + (↑a.length : Int)), .str (TOp.rat (List.getD b (Int.toNat (↑i : Int)) TOp.nil))])])))))) (.side (0 = 0 ∧ List.length (jl a b i) ≤ List.length (jl a b i) ∧ (List.length (jl a b i) + 1) * 40 ≤ 140737488355328) (.side (inR .i64 ((↑i : Int) + (1 : Int))) (.leaf (.back 0 [(0, .int .u8 k), (5, .ptr 1 0), (6, .ptr 2 0), (7, .ptr 3 0), (8, .int .i64 a.length), (9, .int .i64 ((↑i : Int) + (1 : Int)))] [.box [.int .i64 n, .sl a.length 4 (opG a)], .box [.int .i64 m, .sl b.length 4 (opG b)], .box [.int .i64 0, .nils], .box [.int .i64 n, .osl 4 4 0 (List.length (jl a b i) + 1)], .arr (List.length (jl a b i) + 1) 4 (appG (jl a b i).length (opG (jl a b i)) (zh (zc 4 [.int .u8 (TOp.kind (List.getD b (Int.toNat (↑i : Int)) TOp.nil)), .int .i64 (TOp.a (List.getD b (Int.toNat (↑i : Int)) TOp.nil)), .int .i64 (TOp.b (List.getD b (Int.toNat (↑i : Int)) TOp.nil)), .str (TOp.rat (List.getD b (Int.toNat (↑i : Int)) TOp.nil))]) 0)), .box [.int .u8 (TOp.kind (List.getD b (Int.toNat (↑i : Int)) TOp.nil)), .int .i64 (TOp.a (List.getD b (Int.toNat (↑i : Int)) TOp.nil)), .int .i64 (TOp.b (List.getD b (Int.toNat (↑i : Int)) TOp.nil)), .str (TOp.rat (List.getD b (Int.toNat (↑i : Int)) TOp.nil))], .arr 1 4 (zc 4 [.int .u8 (TOp.kind (List.getD b (Int.toNat (↑i : Int)) TOp.nil)), .int .i64 (TOp.a (List.getD b (Int.toNat (↑i : Int)) TOp.nil)), .int .i64 (TOp.b (List.getD b (Int.toNat (↑i : Int)) TOp.nil)), .str (TOp.rat (List.getD b (Int.toNat (↑i : Int)) TOp.nil))])])))))) (.side (inR .i64 ((↑a.length : Int) - (1 : Int))) (.side (inR .i64 ((↑a.length : Int) + b.length)) (.side (inR .i64 ((↑a.length : Int) + b.length - (1 : Int))) (.side (0 = 0 ∧ List.length (jl a b i) ≤ List.length (jl a b i) ∧ (List.length (jl a b i) + 1) * 40 ≤ 140737488355328) (.leaf (.ret [.agg [.int .i64 n, .osl 4 4 0 (List.length (jl a b i) + 1)]] [.box [.int .i64 n, .sl a.length 4 (opG a)], .box [.int .i64 m, .sl b.length 4 (opG b)], .box [.int .i64 n, .osl 4 4 0 (List.length (jl a b i) + 1)], .box [.int .i64 n, .osl 4 4 0 (List.length (jl a b i) + 1)], .arr (List.length (jl a b i) + 1) 4 (appG (jl a b i).length (opG (jl a b i)) (zh (zc 4 [.int .u8 k, .int .i64 ((↑a.length : Int) - (1 : Int)), .int .i64 ((↑a.length : Int) + b.length - (1 : Int)), .str (Array.toList #[])]) 0)), .arr 1 4 (zc 4 [.int .u8 k, .int .i64 ((↑a.length : Int) - (1 : Int)), .int .i64 ((↑a.length : Int) + b.length - (1 : Int)), .str (Array.toList #[])])]))))))) (by kernel_rfl) ?_
  simp only [Tree.holds, zd, inR, lo, hi, Int.toNat_natCast, Nat.zero_add]
  have hl : (jl a b i).length = a.length + i := Wy hib
  refine ⟨fun hlt => ?_, fun hge => ?_⟩
  ·have hlt : i < b.length := by have := of_decide_eq_true hlt; omega
   have hok := vQ d5 hlt
   simp only at hok
   obtain ⟨o, ho⟩ : ∃ o, b.getD i TOp.nil = o := ⟨_, rfl⟩
   have hs := VV (a := a) hlt
   rw [ho] at hok hs
   simp only [ho]
   have hk := qR hok
   have hn : (jl a b (i + 1)).length = (jl a b i).length + 1 := by rw [hs]; simp
   have fin : ∀ (o' : TOp) (b' : Heap), shO a.length o = o' → (True ∧ (jl a b i).length ≤ (jl a b i).length ∧ ((jl a b i).length + 1) * 40 ≤ 140737488355328) ∧ (True ∧ (jl a b i).length ≤ (jl a b i).length ∧ ((jl a b i).length + 1) * 40 ≤ 140737488355328 → (-9223372036854775808 ≤ (i : Int) + 1 ∧ (i : Int) + 1 ≤ 9223372036854775807) ∧ (-9223372036854775808 ≤ (i : Int) + 1 ∧ (i : Int) + 1 ≤ 9223372036854775807 → if True then
     ∃ x' : {i : Nat // i ≤ b.length}, b.length - x'.1 < b.length - i ∧ LeK 0 Try.f22.ntmps [(0, .int .u8 k), (5, .ptr 1 0), (6, .ptr 2 0), (7, .ptr 3 0), (8, .int .i64 (a.length : Int)), (9, .int .i64 ((i : Int) + 1))] (([.box [.int .i64 n, opS a], .box [.int .i64 m, opS b], .box [.int .i64 0, .nils], .box [.int .i64 n, .osl 4 4 0 ((jl a b i).length + 1)], .arr ((jl a b i).length + 1) 4 (appG (jl a b i).length (opG (jl a b i)) (zh (zc 4 [.int .u8 o'.kind, .int .i64 o'.a, .int .i64 o'.b, .str o'.rat]) 0))] : Heap) ++ b') (SJo2 k a.length x'.1) (HJo2 n m a b x'.1) else False)) := by
    rintro _ b' rfl
    refine ⟨⟨trivial, Nat.le_refl _, by omega⟩, fun _ => ⟨by omega, fun _ => ?_⟩⟩
    rw [if_pos trivial]
    refine ⟨⟨i + 1, hlt⟩, by show b.length - (i + 1) < b.length - i; omega, by simp [SJo2], ?_, by kernel_rfl, Nat.zero_le _⟩
    simp only [HJo2, List.cons_append]
    exact ⟨by simp [opS, za], by simp [opS, za], by simp, by simp [hn], ⟨hn.symm, rfl, by rw [hs]; exact yD⟩, by cases b' <;> trivial⟩
   refine ⟨by omega, fun _ => ⟨fun g => ⟨by omega, fun _ => ⟨by omega, fun _ => ?_⟩⟩, fun g => ?_⟩⟩
   ·exact fin ⟨o.kind, o.a + a.length, o.b + a.length, o.rat⟩ [_, _] (by unfold shO; rw [if_pos (of_decide_eq_true g)])
   ·exact fin o [_, _] (by unfold shO; rw [if_neg (of_decide_eq_false g)])
  ·have hge : i = b.length := by have := of_decide_eq_false hge; omega
   subst hge
   refine ⟨by omega, fun _ => ⟨by omega, fun _ => ⟨by omega, fun _ => ⟨⟨trivial, Nat.le_refl _, by omega⟩, fun _ => ?_⟩⟩⟩⟩
   have hj : (zH k ⟨n, a⟩ ⟨m, b⟩).ops = jl a b b.length ++ [⟨k, (a.length : Int) - 1, (a.length : Int) + b.length - 1, []⟩] := by
    unfold zH jl
    rw [List.take_length]
   have hg := yD (l := jl a b b.length) (o := ⟨k, (a.length : Int) - 1, (a.length : Int) + b.length - 1, []⟩)
   refine RetR.out0 hq (fun _ => ?_) ?_
   ·simp only [resV, new2, new1, List.mem_cons, List.not_mem_nil, or_false, forall_eq_or_imp, forall_eq]
    refine ⟨rfl, fun _ => ?_⟩
    simp only [exp0, z0, frz1, jr, List.getElem?_cons_succ, List.getElem?_cons_zero, if_true, Vy]
    intro j o hj ho
    rw [xy, hg j o hj ho]
    exact VE _ _ _ ho
   ·simp only [resV, exp2, exp1, List.map_cons, List.map_nil]
    refine ⟨⟨rfl, rfl⟩, ?_, trivial⟩
    simp only [exp0, z0, frz1, jr, List.getElem?_cons_succ, List.getElem?_cons_zero, if_true]
    refine ⟨by rw [hj]; simp, rfl, ?_⟩
    rw [xy, hj]
    exact hg
 have B : (0 + a.length) * 40 ≤ 140737488355328 := by omega
 repeat' (apply qo)
 ·exact ⟨⟨trivial, Nat.le_refl _, B⟩, fun _ => key1⟩
 ·exact ⟨⟨trivial, Nat.le_refl _, B⟩, fun _ => key1⟩
 ·exact ⟨⟨trivial, Nat.le_refl _, B⟩, fun _ => key2⟩
theorem WE {k : Int} {t u : Tp} (ht : ∀ j, j < t.ops.length → (t.ops.getD j TOp.nil).rat.length ≤ 200) (hu : ∀ j, j < u.ops.length → (u.ops.getD j TOp.nil).rat.length ≤ 200) (h1 : t.ops.length ≤ 60) (h2 : u.ops.length ≤ 60) : zy (zH k t u) := by
 have key : ∀ x ∈ (zH k t u).ops, x.rat.length ≤ 200 := by
  intro x hx
  simp only [zH, List.mem_append, List.mem_map, List.mem_singleton] at hx
  rcases hx with (hx | ⟨y, hy, rfl⟩) | rfl
  ·obtain ⟨j, hj, rfl⟩ := List.getElem_of_mem hx
   have := ht j hj
   simpa [List.getD, hj] using this
  ·obtain ⟨j, hj, rfl⟩ := List.getElem_of_mem hy
   have := hu j hj
   have e : (shO t.ops.length u.ops[j]).rat = u.ops[j].rat := by unfold shO; split <;> rfl
   rw [e]
   simpa [List.getD, hj] using this
  ·simp
 refine ⟨by simp [zH]; omega, fun j hj => ?_⟩
 have := key ((zH k t u).ops.getD j TOp.nil) (by simp [List.getD, hj])
 show ((zH k t u).ops.getD j TOp.nil).rat.length < _
 omega
def Uo : Ctr := ctrP true (fun p : Tp × Tp × List (List UInt8) × Int × List UInt8 => [p.1.av, p.2.1.av, ratS p.2.2.1, .int .i64 p.2.2.2.1, .str p.2.2.2.2]) (fun p => zy p.1 ∧ zy p.2.1 ∧ zN p.2.2.1 ∧ inR .i64 p.2.2.2.1 ∧ p.2.2.2.2.length < 2 ^ 49) (fun _ r => r = true) (fun _ (r : Bool) => (.bool r, []))
noncomputable def GA5 : Nat → Option Ctr := fun f => if f = 20 then some (Yh) else if f = 25 then some (isI) else if f = 8 then some (VN) else if f = 17 then some (yA) else if f = 21 then some (KZ) else if f = 23 then some (VT) else if f = 24 then some (JH) else if f = 22 then some (VM) else none
theorem UO : ∀ g c, GA5 g = some c → ze Try.prog g c := okIf Yp (okIf Us (okIf Kv (okIf xU (okIf VZ (okIf QA (okIf yJ (okIf YF (zz))))))))
theorem YS : ze Try.prog 4 Uo := by
 refine zr (fn := Try.f4) (c := Try.f4.body.getD .skip) rfl rfl rfl fun p hp O w0 Q hq => ?_
 obtain ⟨⟨n, a⟩, ⟨m, b⟩, inp, i, h⟩ := p
 replace hq := hq _ rfl
 obtain ⟨h1, h2, h3, h4, h5⟩ := hp
 simp only at h1 h2 h3 h4 h5 hq
 refine zb.run hmix UO [] 400 (T := .ex (fun (x : Unit) => eqL [] [] ∧ True) fun n_1 => .all (fun (r : Bool) => r = true) fun n_2 => .ex (fun (x : Tp × List (List UInt8)) => eqL [AV.agg [AV.int .i64 n, AV.sl a.length 4 (opG a)], AV.sl inp.length 1 (ratG inp)] [AV.agg [AV.int .i64 (Tp.n x.1), AV.sl (List.length (Tp.ops x.1)) 4 (opG (Tp.ops x.1))], AV.sl x.2.length 1 (ratG x.2)] ∧ zy x.1 ∧ zN x.2) fun n_3 => .all (fun (r : Bool) => r = false → Jv n_3.1 n_3.2) fun n_4 => .ex (fun (x : Tp × List (List UInt8)) => n_4 = false → eqL [AV.agg [AV.int .i64 m, AV.sl b.length 4 (opG b)], AV.sl inp.length 1 (ratG inp)] [AV.agg [AV.int .i64 (Tp.n x.1), AV.sl (List.length (Tp.ops x.1)) 4 (opG (Tp.ops x.1))], AV.sl x.2.length 1 (ratG x.2)] ∧ zy x.1 ∧ zN x.2) fun n_5 => .all (fun (x : Bool) => n_4 = false → x = false → Jv n_5.1 n_5.2) fun n_6 => .ite (bif bif bif n_4 then true else n_6 then true else decide ((200 : Int) < h.length) then true else !n_2) (.leaf (.ret [.bool n_2] [.box [.int .i64 n, .sl a.length 4 (opG a)], .box [.int .i64 m, .sl b.length 4 (opG b)]])) (.ex (fun (x : Tp) => eqL [AV.agg [AV.int .i64 n, AV.sl a.length 4 (opG a)]] [AV.agg [AV.int .i64 (Tp.n x), AV.sl (List.length (Tp.ops x)) 4 (opG (Tp.ops x))]] ∧ zy x) fun n_7 => .all (fun (r : Int) => r = zf n_7) fun n_8 => .ex (fun (x : Tp) => (!decide (n_8 = 0)) = false → eqL [AV.agg [AV.int .i64 m, AV.sl b.length 4 (opG b)]] [AV.agg [AV.int .i64 (Tp.n x), AV.sl (List.length (Tp.ops x)) 4 (opG (Tp.ops x))]] ∧ zy x) fun n_9 => .all (fun (x : Int) => (!decide (n_8 = 0)) = false → x = zf n_9) fun n_10 => .ite (bif bif bif bif !decide (n_8 = 0) then true else !decide (n_10 = 0) then true else !decide (n = m) then true else decide ((↑a.length : Int) = 0) then true else decide ((↑b.length : Int) = 0)) (.leaf (.ret [.bool n_2] [.box [.int .i64 n, .sl a.length 4 (opG a)], .box [.int .i64 m, .sl b.length 4 (opG b)]])) (.ex (fun (x : Tp × List (List UInt8) × Int × List UInt8) => eqL [AV.agg [AV.int .i64 n, AV.sl a.length 4 (opG a)], AV.sl inp.length 1 (ratG inp), AV.int .i64 i, AV.str h] [AV.agg [AV.int .i64 (Tp.n x.1), AV.sl (List.length (Tp.ops x.1)) 4 (opG (Tp.ops x.1))], AV.sl (List.length (x.2.1)) 1 (ratG (x.2.1)), AV.int .i64 (Prod.fst (x.2.2)), AV.str (Prod.snd (x.2.2))] ∧ zy x.1 ∧ zN (x.2.1) ∧ List.length (Prod.snd (x.2.2)) < 562949953421312) fun n_11 => .all (fun (r : List UInt8 × Int) => r = z3 n_11.1 (n_11.2.1) (Prod.fst (n_11.2.2)) (Prod.snd (n_11.2.2))) fun n_12 => .ex (fun (x : Tp × List (List UInt8) × Int × List UInt8) => eqL [AV.agg [AV.int .i64 m, AV.sl b.length 4 (opG b)], AV.sl inp.length 1 (ratG inp), AV.int .i64 i, AV.str h] [AV.agg [AV.int .i64 (Tp.n x.1), AV.sl (List.length (Tp.ops x.1)) 4 (opG (Tp.ops x.1))], AV.sl (List.length (x.2.1)) 1 (ratG (x.2.1)), AV.int .i64 (Prod.fst (x.2.2)), AV.str (Prod.snd (x.2.2))] ∧ zy x.1 ∧ zN (x.2.1) ∧ List.length (Prod.snd (x.2.2)) < 562949953421312) fun n_13 => .all (fun (r : List UInt8 × Int) => r = z3 n_13.1 (n_13.2.1) (Prod.fst (n_13.2.2)) (Prod.snd (n_13.2.2))) fun n_14 => .ex (fun (x : Int × Tp × Tp) => eqL [AV.int .u8 3, AV.agg [AV.int .i64 n, AV.sl a.length 4 (opG a)], AV.agg [AV.int .i64 m, AV.sl b.length 4 (opG b)]] [AV.int .u8 x.1, AV.agg [AV.int .i64 (Tp.n (x.2.1)), AV.sl (List.length (Tp.ops (x.2.1))) 4 (opG (Tp.ops (x.2.1)))], AV.agg [AV.int .i64 (Tp.n (x.2.2)), AV.sl (List.length (Tp.ops (x.2.2))) 4 (opG (Tp.ops (x.2.2)))]] ∧ zf (x.2.1) = (0 : Int) ∧ zf (x.2.2) = (0 : Int)) fun n_15 => .all (fun (x : Unit) => True) fun n_16 => .ex (fun (x : Tp × List (List UInt8) × Int × List UInt8) => eqL [AV.agg [AV.int .i64 (Tp.n (zH n_15.1 (n_15.2.1) (n_15.2.2))), AV.sl (List.length (Tp.ops (zH n_15.1 (n_15.2.1) (n_15.2.2)))) 4 (opG (Tp.ops (zH n_15.1 (n_15.2.1) (n_15.2.2))))], AV.sl inp.length 1 (ratG inp), AV.int .i64 i, AV.str h] [AV.agg [AV.int .i64 (Tp.n x.1), AV.sl (List.length (Tp.ops x.1)) 4 (opG (Tp.ops x.1))], AV.sl (List.length (x.2.1)) 1 (ratG (x.2.1)), AV.int .i64 (Prod.fst (x.2.2)), AV.str (Prod.snd (x.2.2))] ∧ zy x.1 ∧ zN (x.2.1) ∧ List.length (Prod.snd (x.2.2)) < 562949953421312) fun n_17 => .all (fun (r : List UInt8 × Int) => r = z3 n_17.1 (n_17.2.1) (Prod.fst (n_17.2.2)) (Prod.snd (n_17.2.2))) fun n_18 => .ex (fun (x : Int × Tp × Tp) => eqL [AV.int .u8 4, AV.agg [AV.int .i64 n, AV.sl a.length 4 (opG a)], AV.agg [AV.int .i64 m, AV.sl b.length 4 (opG b)]] [AV.int .u8 x.1, AV.agg [AV.int .i64 (Tp.n (x.2.1)), AV.sl (List.length (Tp.ops (x.2.1))) 4 (opG (Tp.ops (x.2.1)))], AV.agg [AV.int .i64 (Tp.n (x.2.2)), AV.sl (List.length (Tp.ops (x.2.2))) 4 (opG (Tp.ops (x.2.2)))]] ∧ zf (x.2.1) = (0 : Int) ∧ zf (x.2.2) = (0 : Int)) fun n_19 => .all (fun (x : Unit) => True) fun n_20 => .ex (fun (x : Tp × List (List UInt8) × Int × List UInt8) => eqL [AV.agg [AV.int .i64 (Tp.n (zH n_19.1 (n_19.2.1) (n_19.2.2))), AV.sl (List.length (Tp.ops (zH n_19.1 (n_19.2.1) (n_19.2.2)))) 4 (opG (Tp.ops (zH n_19.1 (n_19.2.1) (n_19.2.2))))], AV.sl inp.length 1 (ratG inp), AV.int .i64 i, AV.str h] [AV.agg [AV.int .i64 (Tp.n x.1), AV.sl (List.length (Tp.ops x.1)) 4 (opG (Tp.ops x.1))], AV.sl (List.length (x.2.1)) 1 (ratG (x.2.1)), AV.int .i64 (Prod.fst (x.2.2)), AV.str (Prod.snd (x.2.2))] ∧ zy x.1 ∧ zN (x.2.1) ∧ List.length (Prod.snd (x.2.2)) < 562949953421312) fun n_21 => .all (fun (r : List UInt8 × Int) => r = z3 n_21.1 (n_21.2.1) (Prod.fst (n_21.2.2)) (Prod.snd (n_21.2.2))) fun n_22 => .ite (bif !decide (n_12.2 = 0) then true else !decide (n_14.2 = 0)) (.leaf (.ret [.bool n_2] [.box [.int .i64 n, .sl a.length 4 (opG a)], .box [.int .i64 m, .sl b.length 4 (opG b)]])) (.ex (fun (x : List UInt8 × List UInt8) => eqL [AV.str n_12.1, AV.str n_14.1] [AV.str x.1, AV.str x.2] ∧ x.1.length < 2305843009213693952 ∧ x.2.length < 2305843009213693952) fun n_23 => .all (fun (r : List UInt8 × Int) => r = addR n_23.1 n_23.2) fun n_24 => .ex (fun (x : List UInt8 × List UInt8) => eqL [AV.str n_12.1, AV.str n_14.1] [AV.str x.1, AV.str x.2] ∧ x.1.length < 2305843009213693952 ∧ x.2.length < 2305843009213693952) fun n_25 => .all (fun (r : List UInt8 × Int) => r = subR n_25.1 n_25.2) fun n_26 => .ite (bif !decide (n_24.2 = 0) then true else !decide (n_26.2 = 0)) (.leaf (.ret [.bool n_2] [.box [.int .i64 n, .sl a.length 4 (opG a)], .box [.int .i64 m, .sl b.length 4 (opG b)]])) (.leaf (.ret [.bool (bif bif n_2 then bif decide (n_18.2 = 14) then true else bif decide (n_18.2 = 0) then decide (n_18.1 = n_24.1) else false else false then bif decide (n_22.2 = 14) then true else bif decide (n_22.2 = 0) then decide (n_22.1 = n_26.1) else false else false)] [.box [.int .i64 n, .sl a.length 4 (opG a)], .box [.int .i64 m, .sl b.length 4 (opG b)]])))))) (by kernel_rfl) ?_
 simp only [Tree.holds, zd]
 have ok : ∀ b : Heap, RetR Uo 0 Q [.bool true] b := fun b => RetR.scal hq rfl (by simp [resV])
 refine ⟨(), ⟨trivial, trivial⟩, ⟨true, rfl⟩, ?_⟩
 rintro _ rfl
 refine ⟨(⟨n, a⟩, inp), ⟨by simp [za], h1, h3⟩, ⟨true, fun g => by cases g⟩, fun gr hg => ?_⟩
 refine ⟨(⟨m, b⟩, inp), fun _ => ⟨by simp [za], h2, h3⟩, ⟨true, fun _ g => by cases g⟩, fun gs hs => ⟨fun _ => ok _, fun g0 => ?_⟩⟩
 simp only [orf] at g0
 have hgr : gr = false := g0.1.1.1
 have hgs : gs = false := g0.1.1.2
 have fa : Jv ⟨n, a⟩ inp := hg hgr
 have fb : Jv ⟨m, b⟩ inp := hs hgr hgs
 refine ⟨⟨n, a⟩, ⟨by simp [za], h1⟩, ⟨_, rfl⟩, ?_⟩
 intro ca hca
 refine ⟨⟨m, b⟩, fun _ => ⟨by simp [za], h2⟩, ⟨_, fun _ => rfl⟩, ?_⟩
 intro cb hcb
 refine ⟨fun _ => ok _, fun g1 => ?_⟩
 simp only [orf] at g1
 obtain ⟨⟨⟨⟨q1, q2⟩, q3⟩, q4⟩, q5⟩ := g1
 have hcb := hcb q1
 have q1 : ca = 0 := by simpa using q1
 have q2 : cb = 0 := by simpa using q2
 have q3 : n = m := by simpa using q3
 have ka : zf ⟨n, a⟩ = 0 := by rw [← q1]; exact hca.symm
 have kb : zf ⟨m, b⟩ = 0 := by rw [← q2]; exact hcb.symm
 have la := (zV.1 ka).1
 have lb := (zV.1 kb).1
 simp only at la lb
 have la2 : a.length ≤ 60 := by have := fa.2.1; simp only at this; omega
 have lb2 : b.length ≤ 60 := by have := fb.2.1; simp only at this; omega
 refine ⟨(⟨n, a⟩, inp, i, h), ⟨by simp [za], h1, h3, h5⟩, ⟨_, rfl⟩, ?_⟩
 intro x hx
 replace hx : x = z3 ⟨n, a⟩ inp i h := hx
 refine ⟨(⟨m, b⟩, inp, i, h), ⟨by simp [za], h2, h3, h5⟩, ⟨_, rfl⟩, ?_⟩
 intro y hy
 replace hy : y = z3 ⟨m, b⟩ inp i h := hy
 have sj : ∀ k, zy (zH k ⟨n, a⟩ ⟨m, b⟩) := fun k => WE fa.2.2.2.1 fb.2.2.2.1 la2 lb2
 refine ⟨(3, ⟨n, a⟩, ⟨m, b⟩), ⟨by simp [za], ka, kb⟩, ⟨(), trivial⟩, fun _ _ => ?_⟩
 refine ⟨(zH 3 ⟨n, a⟩ ⟨m, b⟩, inp, i, h), ⟨by simp [za, Tp.av, opS], sj 3, h3, h5⟩, ⟨_, rfl⟩, ?_⟩
 intro c hc
 replace hc : c = z3 (zH 3 ⟨n, a⟩ ⟨m, b⟩) inp i h := hc
 refine ⟨(4, ⟨n, a⟩, ⟨m, b⟩), ⟨by simp [za], ka, kb⟩, ⟨(), trivial⟩, fun _ _ => ?_⟩
 refine ⟨(zH 4 ⟨n, a⟩ ⟨m, b⟩, inp, i, h), ⟨by simp [za, Tp.av, opS], sj 4, h3, h5⟩, ⟨_, rfl⟩, ?_⟩
 intro d hd
 replace hd : d = z3 (zH 4 ⟨n, a⟩ ⟨m, b⟩) inp i h := hd
 refine ⟨fun _ => ok _, fun g2 => ?_⟩
 simp only [orf] at g2
 have hx0 : x.2 = 0 := by simpa using g2.1
 have hy0 : y.2 = 0 := by simpa using g2.2
 have lx := qL (show errR x.1 = 0 by rw [hx]; exact (vS (hx ▸ hx0)).2.1)
 have ly := qL (show errR y.1 = 0 by rw [hy]; exact (vS (hy ▸ hy0)).2.1)
 refine ⟨(x.1, y.1), ⟨by simp, by show x.1.length < _; omega, by show y.1.length < _; omega⟩, ⟨_, rfl⟩, ?_⟩
 intro s hs2
 replace hs2 : s = addR x.1 y.1 := hs2
 refine ⟨(x.1, y.1), ⟨by simp, by show x.1.length < _; omega, by show y.1.length < _; omega⟩, ⟨_, rfl⟩, ?_⟩
 intro l hl2
 replace hl2 : l = subR x.1 y.1 := hl2
 refine ⟨fun _ => ok _, fun g3 => ?_⟩
 simp only [orf] at g3
 have hs0 : s.2 = 0 := by simpa using g3.1
 have hl0 : l.2 = 0 := by simpa using g3.2
 have R3 := Go.Nov.Q7 (k := 3) (.inl rfl) q3 (by simp only; omega) (hx ▸ hx0) (hy ▸ hy0) (by rw [← hx, ← hy, arR3, ← hs2]; exact hs0)
 have R4 := Go.Nov.Q7 (k := 4) (.inr rfl) q3 (by simp only; omega) (hx ▸ hx0) (hy ▸ hy0) (by rw [← hx, ← hy, arR4, ← hl2]; exact hl0)
 rw [← hx, ← hy, ← hc, arR3, ← hs2] at R3
 rw [← hx, ← hy, ← hd, arR4, ← hl2] at R4
 have e : ∀ {z : List UInt8 × Int} {w : List UInt8}, (z.2 = 14 ∨ z.2 = 0 ∧ z.1 = w) → (bif decide (z.2 = 14) then true else bif decide (z.2 = 0) then decide (z.1 = w) else false) = true := by
  intro z w h
  rcases h with q | ⟨q, q2⟩
  ·rw [decide_eq_true q]; rfl
  ·rw [decide_eq_true q, decide_eq_true q2]; cases decide (z.2 = 14) <;> rfl
 rw [e R3, e R4]
 exact ok _
end Go.Proofs.Try
end

/- From a reading of the arguments to their representation; from a contract to a call. -/
section
namespace Go.Sx
variable [Stat]
open Go.RowKit (Below)
def E0 : Nat → Prop := Own (fun _ => False) []
theorem zay (b : Nat) : ¬ E0 b := by
 rintro (h | ⟨e, he, _⟩)
 ·exact h
 ·simp at he
def Tw (P : Program) (W : World) (t : TypeId) (cs : List Value) : Prop := ∃ (H : Type) (enc : TypeId × Value → H) (base fuel : Nat) (d : DataW H) (ps : List MemPlace), DataW.trod enc P W base (fun _ => true) true fuel t cs = some (d, ps) ∧ ∀ n ∈ d.weights P t, n ≤ reachBytes
section
variable {P : Program} {W : World} {t e : TypeId} {cs : List Value}
theorem WD (ht : P.underlying t = some .string) (h : Tw P W t cs) : ∃ s : List UInt8, cs = [.string ⟨s.toArray⟩] ∧ s.length ≤ reachBytes := by
 obtain ⟨H, enc, base, fuel, d, ps, h, hw⟩ := h
 obtain ⟨s, rfl, hx, _⟩ := DataW.trod_string ht h
 cases hx
 exact ⟨s.data.toList, by simp, hw _ (by simp [DataW.weights])⟩
theorem ux {k : IntKind} (ht : P.underlying t = some (.int k)) (h : Tw P W t cs) : ∃ n, cs = [.int k n] ∧ (Lit.int k n).wf = true := by
 obtain ⟨H, enc, base, fuel, d, ps, h, hw⟩ := h
 obtain ⟨n, rfl, hx, hwf⟩ := DataW.trod_int ht h
 exact ⟨n, rfl, hwf⟩
theorem ZM {fs : Array Field} (ht : P.underlying t = some (.struct fs)) (h : Tw P W t cs) : cs.length = P.cellsOf t ∧ ∀ (i : Nat) (f : Field), fs[i]? = some f → Tw P W f.type ((cs.drop f.offset).take (P.cellsOf f.type)) := by
 obtain ⟨H, enc, base, fuel, d, ps, h, hw⟩ := h
 obtain ⟨xs, n, _, hx, hl, hlen, hf⟩ := DataW.trod_struct ht h
 cases hx
 refine ⟨hl, fun i f hfi => ?_⟩
 have hi := hf i f hfi
 have hlt : i < xs.length := by
  rw [hlen]; exact (Array.getElem?_eq_some_iff.1 hfi).1
 rw [List.getElem?_eq_getElem hlt] at hi
 refine ⟨H, enc, base, n, xs[i].1, xs[i].2, hi, fun m hm => hw m ?_⟩
 simp only [DataW.weights, ht]
 exact DataW.weights_mem_each (j := i) (t := f.type) (d := xs[i].1) (by simp [hfi]) (by simp [hlt]) m hm
theorem vK {H : Type} {d : DataW H} : ∀ {l : List (DataW H)}, d ∈ l → ∀ n ∈ d.weights P e, n ∈ DataW.weightsAll P e l
 | x :: l, hd, n, hn => by
  simp only [DataW.weightsAll, List.mem_append]
  rcases List.mem_cons.1 hd with rfl | hd
  ·exact .inl hn
  ·exact .inr (vK hd n hn)
theorem X5 (ht : P.underlying t = some (.slice e)) (h : Tw P W t cs) : cs = [.slice none 0 0] ∨ ∃ (a : Addr) (len cap : Nat), cs = [.slice (some a) len cap] ∧ len ≤ cap ∧ cap * P.bytesOf e ≤ reachBytes ∧
  ∀ i, i < len → ∃ cs', cs'.length = P.cellsOf e ∧ (∀ o, o < P.cellsOf e → W.cell? ((a.add (i * P.cellsOf e)).add o) = cs'[o]?) ∧ Tw P W e cs' := by
 obtain ⟨H, enc, base, fuel, d, ps, h, hw⟩ := h
 rcases DataW.trod_slice ht h with ⟨rfl, _⟩ | ⟨a, len, cap, elems, rest, n, _, rfl, hx, hb, hl, hm, hlen, hel, hsp, _⟩
 ·exact .inl rfl
 ·right
  cases hx
  obtain ⟨hrl, _⟩ := hsp rfl
  simp only [DataW.weights, ht] at hw
  refine ⟨a, len, cap, rfl, hl, ?_, fun i hi => ?_⟩
  ·have := hw _ (List.mem_cons_self)
   simp only [List.length_map, hlen, hrl] at this
   rwa [show len + (cap - len) = cap by omega] at this
  ·have h1 := hel i hi
   have hlt : i < elems.length := by rw [hlen]; exact hi
   rw [List.getElem?_eq_getElem hlt, Option.bind_eq_some_iff] at h1
   obtain ⟨cs', h2, h3⟩ := h1
   obtain ⟨_, h4, h5⟩ := World.cells?_some h2
   refine ⟨cs', h4, h5, H, enc, base, n, elems[i].1, elems[i].2, h3, fun m hm2 => hw m ?_⟩
   simp only [List.mem_cons, List.mem_append]
   exact .inr (.inl (vK (d := elems[i].1) (List.mem_map.2 ⟨elems[i], List.getElem_mem hlt, rfl⟩) m hm2))
theorem Zp {α : Type} (z : α) (cell : α → Nat → AV) (good : α → Prop) {sz : Nat} (ht : P.underlying t = some (.slice e)) (hsz : P.cellsOf e = sz) (hpos : 0 < sz)
  (hel : ∀ cs', Tw P W e cs' → ∃ x : α, good x ∧ ∀ o, o < sz → ∃ c, cs'[o]? = some c ∧ c.oneCell' = true ∧ Rep E0 W (cell x o) [] c) (h : Tw P W t cs) :
  ∃ (l : List α) (v : Value), cs = [v] ∧ (∀ x ∈ l, good x) ∧ l.length * P.bytesOf e ≤ reachBytes ∧ v.oneCell' = true ∧ Rep E0 W (.sl l.length sz fun j => cell (l.getD j z)) [] v := by
 rcases X5 ht h with rfl | ⟨a, len, cap, rfl, hl, hw, hx⟩
 ·refine ⟨[], _, rfl, by simp, by simp, rfl, ?_⟩
  simp only [Rep]
  exact ⟨none, 0, rfl, Nat.le_refl _, .inl rfl⟩
 ·rw [hsz] at hx
  have hx2 : ∀ i, ∃ x : α, i < len → good x ∧ ∀ o, o < sz → ∃ c, W.cell? ((a.add (i * sz)).add o) = some c ∧ c.oneCell' = true ∧ Rep E0 W (cell x o) [] c := fun i => by
   by_cases hi : i < len
   ·obtain ⟨cs', h1, h2, h3⟩ := hx i hi
    obtain ⟨x, hg, hc⟩ := hel cs' h3
    exact ⟨x, fun _ => ⟨hg, fun o ho => by
     obtain ⟨c, g1, g2, g3⟩ := hc o ho
     exact ⟨c, by rw [h2 o ho, g1], g2, g3⟩⟩⟩
   ·exact ⟨z, fun h => absurd h hi⟩
  obtain ⟨f, hf⟩ := Classical.axiomOfChoice hx2
  have hgd : ∀ j, j < len → ((List.range len).map f).getD j z = f j := fun j hj => by simp [List.getD, hj]
  refine ⟨(List.range len).map f, _, rfl, fun x hxm => ?_, ?_, rfl, ?_⟩
  ·obtain ⟨i, hi, rfl⟩ := List.mem_map.1 hxm
   exact (hf i (List.mem_range.1 hi)).1
  ·simp only [List.length_map, List.length_range]
   exact Nat.le_trans (Nat.mul_le_mul_right _ hl) hw
  ·simp only [Rep, List.length_map, List.length_range]
   refine ⟨some a, cap, rfl, hl, ?_⟩
   rcases Nat.eq_zero_or_pos len with h0 | h0
   ·exact .inl h0
   ·right
    have hspot : a.spot = none := by
     obtain ⟨c, g1, _⟩ := (hf 0 h0).2 0 hpos
     have := World.cell?_spot g1
     simpa [Addr.add] using this
    refine ⟨a, rfl, hspot, fun j o hj ho => ⟨zay _, ?_⟩⟩
    obtain ⟨c, g1, g2, g3⟩ := (hf j hj).2 o ho
    refine ⟨c, ?_, g2, by rw [hgd j hj]; exact g3⟩
    rw [← g1]
    obtain ⟨b, off, spot⟩ := a
    simp only at hspot
    subst hspot
    congr 1
    simp only [Addr.add]
    split <;> split <;> simp_all <;> omega
theorem K6 {g : Nat} {fn : Func} {c : Code} (hf : P.funcs[g]? = some fn) (hb : fn.body = some c) (hn : (fn.name == "runtime.NumGoroutine") = false) {ctr : Ctr} (hok : ze P g ctr) {args : List AV} {vals : List Value}
  (hspec : (ctr.spec args []).holds fun r => r = (.bool true, [])) (hr : RepL E0 W args [] vals) (hst : wQ E0 W) : Calls P g vals.toArray W fun e W' => e = .returned (.bool true) ∧ Below W.heap.size W W' := by
 have hn' : ¬ fn.name = "runtime.NumGoroutine" := by simpa using hn
 have hg : Good (fun _ => False) W [] := ⟨fun b h => h.elim, fun i e ad he => by simp at he, hst⟩
 have hh : HRep (Own (fun _ => False) []) W [] [] := ⟨rfl, fun i j e f a b he => by simp at he, fun i e a he => by simp at he, fun i e b he => by simp at he⟩
 rcases hok args [] _ hspec (fun _ => rfl) (fun _ => False) W [] vals hg hh hr with ⟨_, h⟩ | ⟨v, w', h, _⟩
 ·refine h.mono ?_
  rintro e W' ⟨v, rfl, r, hs, σ', hq, h1, _, _, _, _, hx⟩
  cases hq
  simp only [Rep] at h1
  subst h1
  exact ⟨rfl, hx.os, hx.tape, hx.output, hx.size, fun k hk => hx.keep k hk fun ⟨e, he, _⟩ => by simp at he⟩
 ·simp [callFunc, hf, hn', hb] at h
end
end Go.Sx
end

/- Recursive data as arguments; package-level maps that read as they are laid. -/
section
namespace Go.Sx
variable [Stat]
section
variable {P : Program} {W : World} {t e : TypeId} {cs : List Value}
end
section
open Go.WideElems Go.ChangeMaps
variable {H : Type} {enc : TypeId × Value → H} {P : Program} {W : World} {base : Nat} {sp : Nat → Bool} {held : Bool}
end
end Go.Sx
end

/- What rows hand to laws about tapes: arguments as data. -/
section
set_option maxRecDepth 100000
namespace Go.Proofs.Ytbnoamkgjjbfmaa
open Go Go.Sx Go.Nov Go.Proofs.Try Go.ChangeShapes Go.WideShapes Go.ChangeAt Go.RowKit
theorem ZN : Try.prog.cellsOf 33 = 1 := by kernel_rfl
theorem yc : Try.prog.cellsOf 3 = 1 := by kernel_rfl
theorem Yi : Try.prog.cellsOf 5 = 1 := by kernel_rfl
theorem Jo : Try.prog.cellsOf 59 = 4 := by kernel_rfl
theorem Yj : Try.prog.cellsOf 22 = 1 := by kernel_rfl
theorem Vk : Try.prog.cellsOf 24 = 2 := by kernel_rfl
theorem Yt {W : World} {cs : List Value} (h : Tw Try.prog W 59 cs) : ∃ x : TOp, (Qn x ∧ x.rat.length ≤ reachBytes) ∧ cs = [.int .u8 x.kind, .int .i64 x.a, .int .i64 x.b, .string ⟨x.rat.toArray⟩] := by
 obtain ⟨hl, hf⟩ := ZM Try.underlying59 h
 rw [Jo] at hl
 match cs, hl with
 | [a, b, c, d], _ =>
  have h0 : Tw Try.prog W 5 (([a, b, c, d].drop 0).take (Try.prog.cellsOf 5)) := hf 0 _ rfl
  rw [Yi] at h0
  replace h0 : Tw Try.prog W 5 [a] := h0
  have h1 : Tw Try.prog W 3 (([a, b, c, d].drop 1).take (Try.prog.cellsOf 3)) := hf 1 _ rfl
  rw [yc] at h1
  replace h1 : Tw Try.prog W 3 [b] := h1
  have h2 : Tw Try.prog W 3 (([a, b, c, d].drop 2).take (Try.prog.cellsOf 3)) := hf 2 _ rfl
  rw [yc] at h2
  replace h2 : Tw Try.prog W 3 [c] := h2
  have h3 : Tw Try.prog W 33 (([a, b, c, d].drop 3).take (Try.prog.cellsOf 33)) := hf 3 _ rfl
  rw [ZN] at h3
  replace h3 : Tw Try.prog W 33 [d] := h3
  obtain ⟨k, e0, w0⟩ := ux Try.underlying5 h0
  obtain ⟨n, e1, w1⟩ := ux Try.underlying3 h1
  obtain ⟨m, e2, w2⟩ := ux Try.underlying3 h2
  obtain ⟨u, e3, w3⟩ := WD Try.underlying33 h3
  cases e0; cases e1; cases e2; cases e3
  refine ⟨⟨k, n, m, u⟩, ⟨?_, w3⟩, rfl⟩
  have := reachBytes_lt
  show u.length < _
  omega
theorem JN {W : World} {cs : List Value} (h : Tw Try.prog W 24 cs) : ∃ t : Tp, zy t ∧ Rep E0 W t.av [] (.agg cs.toArray) := by
 obtain ⟨hl, hf⟩ := ZM Try.underlying24 h
 rw [Vk] at hl
 match cs, hl with
 | [a, b], _ =>
  have h0 : Tw Try.prog W 3 (([a, b].drop 0).take (Try.prog.cellsOf 3)) := hf 0 _ rfl
  rw [yc] at h0
  replace h0 : Tw Try.prog W 3 [a] := h0
  have h1 : Tw Try.prog W 22 (([a, b].drop 1).take (Try.prog.cellsOf 22)) := hf 1 _ rfl
  rw [Yj] at h1
  replace h1 : Tw Try.prog W 22 [b] := h1
  obtain ⟨n, e0, w0⟩ := ux Try.underlying3 h0
  obtain ⟨l, v, e1, gl, wl, _, rl⟩ := Zp TOp.nil TOp.cell (fun x => Qn x ∧ x.rat.length ≤ reachBytes) Try.underlying22 Jo (by decide) (fun cs' h' => by
   obtain ⟨x, hx, rfl⟩ := Yt h'
   refine ⟨x, hx, fun o ho => ?_⟩
   match o, ho with
   | 0, _ => exact ⟨_, rfl, rfl, by simp [TOp.cell, Rep]⟩
   | 1, _ => exact ⟨_, rfl, rfl, by simp [TOp.cell, Rep]⟩
   | 2, _ => exact ⟨_, rfl, rfl, by simp [TOp.cell, Rep]⟩
   | 3, _ => exact ⟨_, rfl, rfl, by simp [TOp.cell, Rep]⟩) h1
  cases e0; cases e1
  have b1 : Try.prog.bytesOf 59 = 40 := by kernel_rfl
  rw [b1] at wl
  have hr := reachBytes_lt
  refine ⟨⟨n, l⟩, ⟨by show l.length < _; omega, fun j hj => (gl (l.getD j TOp.nil) (by simp only at hj; simp [List.getD, hj])).1⟩, ?_⟩
  ·simp only [RepL, Rep, Tp.av]
   exact ⟨_, rfl, _, _, rfl, rfl, _, _, rfl, rl, rfl⟩
theorem Xl {W : World} {cs : List Value} (h : Tw Try.prog W 25 cs) : ∃ (v : Value) (l : List (List UInt8)), cs = [v] ∧ zN l ∧ Rep E0 W (ratS l) [] v := by
 obtain ⟨l, v, e1, gl, wl, _, rl⟩ := Zp [] (fun (x : List UInt8) _ => AV.str x) (fun x => x.length ≤ reachBytes) Try.underlying25 ZN (by decide) (fun cs' h' => by
   obtain ⟨x, rfl, hx⟩ := WD Try.underlying33 h'
   refine ⟨x, hx, fun o ho => ?_⟩
   match o, ho with
   | 0, _ => exact ⟨_, rfl, rfl, by simp [Rep]⟩) h
 have b1 : Try.prog.bytesOf 33 = 16 := by kernel_rfl
 rw [b1] at wl
 have hr := reachBytes_lt
 exact ⟨v, l, e1, ⟨by omega, fun j hj => by have := gl (l.getD j []) (by simp [List.getD, hj]); omega⟩, rl⟩
theorem YE {W : World} {t : TypeId} {cs : List Value} (ht : Try.prog.underlying t = some .string) (h : Tw Try.prog W t cs) : ∃ s : List UInt8, cs = [.string ⟨s.toArray⟩] ∧ s.length < 2 ^ 49 ∧ Rep E0 W (.str s) [] (.string ⟨s.toArray⟩) := by
 obtain ⟨s, rfl, hs⟩ := WD ht h
 have hr := reachBytes_lt
 exact ⟨s, rfl, by omega, by simp [Rep]⟩
theorem YW {W : World} {cs : List Value} (h : Tw Try.prog W 3 cs) : ∃ n : Int, cs = [.int .i64 n] ∧ inR .i64 n ∧ Rep E0 W (.int .i64 n) [] (.int .i64 n) := by
 obtain ⟨n, rfl, hn⟩ := ux Try.underlying3 h
 refine ⟨n, rfl, ?_, by simp [Rep]⟩
 simp only [Lit.wf, Bool.and_eq_true, decide_eq_true_eq] at hn
 exact hn
end Go.Proofs.Ytbnoamkgjjbfmaa
end

/- For every input the law returns true, and each argument reads behind the call as it read before. -/
section
set_option maxRecDepth 100000
namespace Go.Proofs.Ytbnoamkgjjbfmaa
open Go Go.Sx Go.Nov Go.Proofs.Try Go.ChangeShapes Go.WideShapes Go.ChangeAt Go.RowKit
theorem walk {W : World} {v0 v1 v2 v3 v4 : List Value} (h0 : Tw Try.prog W 24 v0) (h1 : Tw Try.prog W 24 v1) (h2 : Tw Try.prog W 25 v2) (h3 : Tw Try.prog W 3 v3) (h4 : Tw Try.prog W 33 v4) :
  ∃ s2 : Value, v2 = [s2] ∧ ∃ s3 : Value, v3 = [s3] ∧ ∃ s4 : Value, v4 = [s4] ∧ Calls Try.prog 4 #[.agg v0.toArray, .agg v1.toArray, s2, s3, s4] W fun e W' => e = .returned (.bool true) ∧ Below W.heap.size W W' := by
 obtain ⟨t, tg, tr⟩ := JN h0
 obtain ⟨u, ug, ur⟩ := JN h1
 obtain ⟨s2, inp, rfl, inpg, inpr⟩ := Xl h2
 obtain ⟨i, rfl, ig, ir⟩ := YW h3
 obtain ⟨h, rfl, hg, hr⟩ := YE Try.underlying33 h4
 refine ⟨_, rfl, ?_⟩
 refine ⟨_, rfl, ?_⟩
 refine ⟨_, rfl, ?_⟩
 refine K6 (fn := Try.f4) (c := Try.f4.body.getD .skip) rfl rfl rfl YS (args := [t.av, u.av, ratS inp, .int .i64 i, .str h]) (vals := [.agg v0.toArray, .agg v1.toArray, s2, .int .i64 i, .string ⟨h.toArray⟩]) ?_ ?_ K3
 ·refine ⟨(t, u, inp, i, h), ⟨?_, ⟨tg, ug, inpg, ig, hg⟩⟩, ⟨true, rfl⟩, ?_⟩
  ·simp [eqL, eqA, eqA0, eqL0, Tp.av, opS, ratS, za]
  ·rintro _ rfl
   rfl
 ·exact ⟨_, _, rfl, tr, ⟨_, _, rfl, ur, ⟨_, _, rfl, inpr, ⟨_, _, rfl, ir, ⟨_, _, rfl, hr, rfl⟩⟩⟩⟩⟩
theorem own : ownKnob Try.prog.godebug = none := by kernel_rfl
theorem laid : laidOutB Try.prog = true := by kernel_rfl
theorem lifted (os : Os) (started : os.Started) (H : Type) (enc : TypeId × Value → H) :
  ReturnsInHanded {} Try.checked os 4 .any (Rows.bumpSumsSpec.pre6 enc Try.prog Try.f4 Rows.bumpSumsRow.domain false) (Rows.bumpSumsSpec.post enc Try.prog Try.f4 false true false false) := by
 refine returnsInHanded_of_change_sized (C := Try.checked) own started (by kernel_rfl) Try.func4
  (ChangeSpec.witness6 (enc := enc) (C := Try.checked) false ⟨#[], #[.agg #[.int .i64 0, .slice none 0 0], .agg #[.int .i64 0, .slice none 0 0], .slice none 0 0, .int .i64 0, .string ⟨#[]⟩], []⟩ 8 (by kernel_rfl) (by kernel_rfl) (by kernel_rfl) (by kernel_rfl)) ?_
 intro W base args ds gs before hval0 hW hcnd hwt _
 have hval : ∀ (j : Nat) t v, Try.f4.params[j]? = some t → args[j]? = some v → Value.okWide Try.prog W .any base t v := hval0
 have hW' := hW
 obtain ⟨p, q, hA0, hV, rfl, hfz, hnd⟩ := hW
 have hA : DataW.TrodAll enc Try.prog W 0 (fun _ => true) true Try.f4.params.toList args.toList ds p := hA0
 rw [Try.params4] at hA hval
 obtain ⟨v0, vs0, d0, ds0, p0, q0, hargs, rfl, rfl, h0, r0⟩ := trodAll_cons hA
 obtain ⟨v1, vs1, d1, ds1, p1, q1, rfl, rfl, rfl, h1, r1⟩ := trodAll_cons r0
 obtain ⟨v2, vs2, d2, ds2, p2, q2, rfl, rfl, rfl, h2, r2⟩ := trodAll_cons r1
 obtain ⟨v3, vs3, d3, ds3, p3, q3, rfl, rfl, rfl, h3, r3⟩ := trodAll_cons r2
 obtain ⟨v4, vs4, d4, ds4, p4, q4, rfl, rfl, rfl, h4, r4⟩ := trodAll_cons r3
 obtain ⟨rfl, rfl, rfl⟩ := trodAll_nil r4
 obtain rfl : args = #[v0, v1, v2, v3, v4] := by cases args; simp_all
 obtain ⟨rfl, rfl⟩ := trodVars_none hV
 clear hA0 hval0
 simp only [List.append_nil] at hW' hwt
 have hw : ∀ (j : Nat) (t : TypeId) (d : DataW H), [24, 24, 25, 3, 33][j]? = some t → [d0, d1, d2, d3, d4][j]? = some d → ∀ n ∈ d.weights Try.prog t, n ≤ reachBytes := fun j t d ht hd n hn => by
  have := List.all_eq_true.1 hwt n (DataW.weights_mem_each (j := j) (t := t) (d := d) (by exact ht) (by exact hd) n hn)
  simpa using this
 obtain ⟨c0, rfl, _⟩ := okWide_struct Try.underlying24 (hval 0 24 v0 rfl rfl)
 obtain ⟨c1, rfl, _⟩ := okWide_struct Try.underlying24 (hval 1 24 v1 rfl rfl)
 obtain ⟨a2, l2, k2, rfl⟩ := okWide_slice Try.underlying25 (hval 2 25 v2 rfl rfl)
 obtain ⟨c3, rfl⟩ := okWide_int Try.underlying3 (hval 3 3 v3 rfl rfl)
 obtain ⟨c4, rfl⟩ := okWide_string Try.underlying33 (hval 4 33 v4 rfl rfl)
 have t0 : Tw Try.prog W 24 c0.toList := by
  obtain ⟨fuel, hf⟩ := h0
  exact ⟨H, enc, 0, fuel, d0, p0, by simpa [Value.cells] using hf, hw 0 _ d0 rfl rfl⟩
 have t1 : Tw Try.prog W 24 c1.toList := by
  obtain ⟨fuel, hf⟩ := h1
  exact ⟨H, enc, 0, fuel, d1, p1, by simpa [Value.cells] using hf, hw 1 _ d1 rfl rfl⟩
 have t2 : Tw Try.prog W 25 [.slice a2 l2 k2] := by
  obtain ⟨fuel, hf⟩ := h2
  exact ⟨H, enc, 0, fuel, d2, p2, by simpa [Value.cells] using hf, hw 2 _ d2 rfl rfl⟩
 have t3 : Tw Try.prog W 3 [.int .i64 c3] := by
  obtain ⟨fuel, hf⟩ := h3
  exact ⟨H, enc, 0, fuel, d3, p3, by simpa [Value.cells] using hf, hw 3 _ d3 rfl rfl⟩
 have t4 : Tw Try.prog W 33 [.string c4] := by
  obtain ⟨fuel, hf⟩ := h4
  exact ⟨H, enc, 0, fuel, d4, p4, by simpa [Value.cells] using hf, hw 4 _ d4 rfl rfl⟩
 have hlt : ∀ x ∈ p0 ++ (p1 ++ (p2 ++ (p3 ++ p4))), x.block < W.heap.size := fun x hx => by simpa using hW'.lt x (by simpa using hx)
 obtain ⟨s2, e2, s3, e3, s4, e4, hcall⟩ := walk t0 t1 t2 t3 t4
 cases e2
 cases e3
 cases e4
 simp only [Array.toArray_toList] at hcall
 refine hcall.mono fun e W' ⟨he, hb⟩ => ?_
 subst he
 refine ⟨_, rfl, _, _, _, [], p0 ++ (p1 ++ (p2 ++ (p3 ++ p4))), [], hW', trodAll_mk1 (shut_bool Try.underlying4 true), ?_, rfl, hb.frame _, fun h => by cases h⟩
 have H := trodAll_cons_mk (Below.trod laid (by kernel_rfl) (of_decide_eq_true (by kernel_rfl)) h0 hb fun x hx => hlt x (by simp [hx])) (trodAll_cons_mk (Below.trod laid (by kernel_rfl) (of_decide_eq_true (by kernel_rfl)) h1 hb fun x hx => hlt x (by simp [hx])) (trodAll_cons_mk (Below.trod laid (by kernel_rfl) (of_decide_eq_true (by kernel_rfl)) h2 hb fun x hx => hlt x (by simp [hx])) (trodAll_cons_mk (Below.trod laid (by kernel_rfl) (of_decide_eq_true (by kernel_rfl)) h3 hb fun x hx => hlt x (by simp [hx])) (trodAll_cons_mk (Below.trod laid (by kernel_rfl) (of_decide_eq_true (by kernel_rfl)) h4 hb fun x hx => hlt x (by simp [hx])) (trodAll_mk0)))))
 simp only [List.append_nil] at H
 exact H
theorem over : Rows.bumpSumsRow.holds Try.pinned (OpenSpec.ofChange Rows.bumpSumsSpec) :=
 OpenClaim.holds_of_wide 4 Try.f4 rfl rfl rfl rfl rfl rfl rfl ⟨rfl, rfl, rfl, rfl, rfl⟩ rfl rfl rfl rfl rfl (by kernel_rfl) Try.func4 (by kernel_rfl)
  (of_decide_eq_true (by kernel_rfl)) (by unfold Func.isWrapper; first | (rw [if_pos (by decide +kernel)]; kernel_rfl) | (rw [if_neg (by decide +kernel)]; exact ⟨rfl, rfl⟩))
  (fun os started H enc _ => lifted os started H enc)
theorem bumpSums_holds : Rows.BumpSumsSaid := over
end Go.Proofs.Ytbnoamkgjjbfmaa
end
