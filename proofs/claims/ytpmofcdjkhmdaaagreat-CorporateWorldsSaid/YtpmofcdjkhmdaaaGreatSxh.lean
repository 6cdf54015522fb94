/- The law returns true for every input, and each argument reads afterwards as it read before; no condition. -/
import Derived.Test.YtpmofcdjkhmdaaaGreatSxg
import Derived.SizedLaws
import Derived.ChangeArms
import Derived.Deep.Slices
import Derived.Carry
import Derived.LaidMore
import Derived.WideKeyElems2
import Derived.ProofKit
import Derived.OpenShut
import Derived.ReadAgain
import Derived.Test.YtpmofcdjkhmdaaaGreatRows
set_option linter.unusedVariables false
set_option linter.unusedSimpArgs false
set_option linter.unusedSectionVars false

/- Corporate actions: the world before. -/
section
set_option maxRecDepth 100000
open Go Go.Sx Go.Proofs Go.Nov
namespace Go.Proofs.Tryz
attribute [local simp] eqKV eqA eqA0 eqH eqB eqL eqL0
noncomputable def K14 : List Go.Sx.Item := [.code (Tryz.f14.body.getD .skip)]
noncomputable def K7 : List Go.Sx.Item := [.code (Tryz.f7.body.getD .skip)]
def bf1C : Ctr := ctrP true (fun p : Fx × List UInt8 => [p.1.av, .str p.2]) (fun _ => True) (fun p r => r = if Op.bytesLess p.2 p.1.name = true then 1 else -1) (fun _ (r : Int) => (.int .i64 r, []))
theorem zfd : zd Tryz.prog 15 bf1C := by
 refine ze (fn := Tryz.f15) (c := Tryz.f15.body.getD .skip) rfl rfl rfl fun p hp O w0 Q hq => ?_
 obtain ⟨f, s⟩ := p
 replace hq := hq _ rfl
 simp only at hq
 refine zb.run hmix zq [] 400 (T := .ite (Op.bytesLess f.name s || decide (Fx.name f = s)) (.leaf (.ret [.int .i64 (-1 : Int)] [.box [.str f.name, .int .i64 f.date, .str f.value]])) (.leaf (.ret [.int .i64 1] [.box [.str f.name, .int .i64 f.date, .str f.value]]))) (by kernel_rfl) ?_
 simp only [Tree.holds, zc]
 have key : (Op.bytesLess f.name s || decide (f.name = s)) = !Op.bytesLess s f.name := by
  rcases JH f.name s with h | h | h
  ·have h2 : Op.bytesLess s f.name = false := Bool.eq_false_iff.2 fun g => by have := kD h g; rw [kB] at this; cases this
   rw [h, h2]; rfl
  ·rw [h, kB]; simp
  ·have h2 : Op.bytesLess f.name s = false := Bool.eq_false_iff.2 fun g => by have := kD h g; rw [kB] at this; cases this
   rw [h, h2]
   have : f.name ≠ s := fun e => by rw [e, kB] at h; cases h
   simp [this]
 rw [key]
 cases hb : Op.bytesLess s f.name with
 | true =>
  rw [hb, if_pos rfl] at hq
  exact ⟨fun h => by simp at h, fun _ => RetR.scal hq rfl (by simp [resV])⟩
 | false =>
  rw [hb, if_neg (by simp)] at hq
  exact ⟨fun _ => RetR.scal hq rfl (by simp [resV]), fun h => by simp at h⟩
theorem zg2 {a : Ca} {l : List Fx} (hs : l.Pairwise fun x y => cmpF x y < 0) {j : Nat} (hj : j < l.length) : Op.bytesLess a.name (l.getD j Fx.nil).name = decide (a.at_ l ≤ j) := by
 obtain ⟨h1, h2⟩ := Ca.zbz (a := a) hs
 have e : l.getD j Fx.nil = l[j] := by simp [List.getD, hj]
 rw [e]
 by_cases h : a.at_ l ≤ j
 ·rw [decide_eq_true h]
  refine h2 _ ?_
  rw [List.mem_iff_getElem]
  exact ⟨j - a.at_ l, by rw [List.length_drop]; omega, by rw [List.getElem_drop]; congr 1; omega⟩
 ·rw [decide_eq_false h]
  refine h1 _ ?_
  rw [List.mem_iff_getElem]
  exact ⟨j, by rw [List.length_take]; omega, by rw [List.getElem_take]⟩
noncomputable def GBs : Nat → Option Ctr := fun f => if f = 15 then some (bf1C) else none
theorem zat : ∀ g c, GBs g = some c → zd Tryz.prog g c := okIf zfd (zp)
def bsC : Ctr := ctrP true (fun p : List Fx × Ca => [fxS p.1, .str p.2.name, .fn 15 [] []]) (fun p => p.1.length < 2 ^ 40 ∧ p.1.Pairwise fun x y => cmpF x y < 0) (fun p (r : Nat × Bool) => r.1 = p.2.at_ p.1) (fun _ (r : Nat × Bool) => (.tup [.int .i64 (r.1 : Int), .bool r.2], []))
def SBs (l : List Fx) (a : Ca) (i j : Nat) : KV := [(0, fxS l), (1, .str a.name), (2, .fn 15 [] []), (8, .int .i64 (l.length : Int)), (9, .int .i64 (i : Int)), (10, .int .i64 (j : Int)), (40, .undef), (41, .undef), (42, .undef), (43, .undef), (44, .undef), (45, .undef), (46, .undef), (47, .undef)]
theorem zgn : zd Tryz.prog 14 bsC := by
 refine ze (fn := Tryz.f14) (c := Tryz.f14.body.getD .skip) rfl rfl rfl fun p hp O w0 Q hq => ?_
 obtain ⟨l, a⟩ := p
 obtain ⟨hl, hs⟩ := hp
 simp only at hl hs hq
 refine zb.run hmix zat [0, 1, 2, 8, 9, 10, 40, 41, 42, 43, 44, 45, 46, 47] 400 (T := .leaf (.loop (Prod.fst (lps K14 0)) (Prod.snd (lps K14 0)) [(0, .sl l.length 3 (fxG l)), (1, .str (Ca.name a)), (2, .fn 15 [] []), (8, .int .i64 l.length), (9, .int .i64 0), (10, .int .i64 l.length), (40, .undef), (41, .undef), (42, .undef), (43, .undef), (44, .undef), (45, .undef), (46, .undef), (47, .undef)] [])) (by kernel_rfl) ?_
 simp only [Tree.holds, zc, inR, lo, hi, Int.toNat_natCast]
 refine zb.loop (ι := {p : Nat × Nat // p.1 ≤ p.2 ∧ p.2 ≤ l.length ∧ p.1 ≤ a.at_ l ∧ a.at_ l ≤ p.2}) (fun i => SBs l a i.1.1 i.1.2) (fun _ => []) (fun i => i.1.2 - i.1.1) ⟨(0, l.length), Nat.zero_le _, Nat.le_refl _, Nat.zero_le _, Ca.QR⟩ 0 ?_ ?_ (by kernel_rfl)
 ·exact ⟨by simp [SBs, fxS, za], trivial, by kernel_rfl, Nat.zero_le _⟩
 ·rintro ⟨⟨i, j⟩, hij, hjl, hia, haj⟩
  simp only at hij hjl hia haj
  refine zb.run hmix zat [0, 1, 2, 8, 9, 10, 40, 41, 42, 43, 44, 45, 46, 47] 400 (T := .ite (decide ((↑i : Int) < j)) (.side (inR .i64 ((↑i : Int) + j)) (.side (inR .u64 ((↑i : Int) + j)) (.side ((0 : Int) ≤ 1 ∧ (1 : Int) ≤ 64) (.side (inR .i64 (Int.fdiv ((↑i : Int) + j) (2 : Int))) (.side ((0 : Int) ≤ Int.fdiv ((↑i : Int) + j) (2 : Int) ∧ Int.fdiv ((↑i : Int) + j) (2 : Int) < l.length) (.ex (fun (x : Fx × List UInt8) => eqL [AV.agg [AV.str (Fx.name (List.getD l (Int.toNat (Int.fdiv ((↑i : Int) + j) (2 : Int))) Fx.nil)), AV.int .i64 (Fx.date (List.getD l (Int.toNat (Int.fdiv ((↑i : Int) + j) (2 : Int))) Fx.nil)), AV.str (Fx.value (List.getD l (Int.toNat (Int.fdiv ((↑i : Int) + j) (2 : Int))) Fx.nil))], AV.str (Ca.name a)] [AV.agg [AV.str x.1.name, AV.int .i64 x.1.date, AV.str x.1.value], AV.str x.2] ∧ True) fun n => .all (fun (r : Int) => r = if Op.bytesLess n.2 n.1.name = true then (1 : Int) else (-1 : Int)) fun n => .ite (decide (n < 0)) (.side (inR .i64 (Int.fdiv ((↑i : Int) + j) (2 : Int) + (1 : Int))) (.leaf (.back 0 [(0, .sl l.length 3 (fxG l)), (1, .str (Ca.name a)), (2, .fn 15 [] []), (8, .int .i64 l.length), (9, .int .i64 (Int.fdiv ((↑i : Int) + j) (2 : Int) + (1 : Int))), (10, .int .i64 j), (40, .undef), (41, .undef), (42, .undef), (43, .undef), (44, .undef), (45, .undef), (46, .undef), (47, .undef)] []))) (.leaf (.back 0 [(0, .sl l.length 3 (fxG l)), (1, .str (Ca.name a)), (2, .fn 15 [] []), (8, .int .i64 l.length), (9, .int .i64 i), (10, .int .i64 (Int.fdiv ((↑i : Int) + j) (2 : Int))), (40, .undef), (41, .undef), (42, .undef), (43, .undef), (44, .undef), (45, .undef), (46, .undef), (47, .undef)] [])))))))) (.side (decide ((↑i : Int) < l.length) = true → (0 : Int) ≤ i ∧ (↑i : Int) < l.length) (.ex (fun (x : Fx × List UInt8) => decide ((↑i : Int) < l.length) = true → eqL [AV.agg [AV.str (Fx.name (List.getD l (Int.toNat (↑i : Int)) Fx.nil)), AV.int .i64 (Fx.date (List.getD l (Int.toNat (↑i : Int)) Fx.nil)), AV.str (Fx.value (List.getD l (Int.toNat (↑i : Int)) Fx.nil))], AV.str (Ca.name a)] [AV.agg [AV.str x.1.name, AV.int .i64 x.1.date, AV.str x.1.value], AV.str x.2] ∧ True) fun n => .all (fun (x : Int) => decide ((↑i : Int) < l.length) = true → x = if Op.bytesLess n.2 n.1.name = true then (1 : Int) else (-1 : Int)) fun n => .leaf (.ret [.int .i64 i, .bool (bif decide ((↑i : Int) < l.length) then decide (n = 0) else false)] [])))) (by kernel_rfl) ?_
  simp only [Tree.holds, zc, inR, lo, hi, Int.toNat_natCast]
  have hm : ((i : Int) + j).fdiv 2 = (((i + j) / 2 : Nat) : Int) := by
   rw [Int.fdiv_eq_ediv_of_nonneg _ (by decide)]; omega
  refine ⟨fun h => ?_, fun h => ?_⟩
  ·have h := of_decide_eq_true h
   rw [hm]
   obtain ⟨m, hmd⟩ : ∃ m, (i + j) / 2 = m := ⟨_, rfl⟩
   have hml : m < j := by omega
   have hmi : i ≤ m := by omega
   rw [hmd]
   simp only [Int.toNat_natCast]
   refine ⟨by omega, fun _ => ⟨by omega, fun _ => ⟨by omega, fun _ => ⟨by omega, fun _ => ⟨by omega, fun _ => ⟨(l.getD m Fx.nil, a.name), ⟨by simp, trivial⟩, ⟨_, rfl⟩, ?_⟩⟩⟩⟩⟩⟩
   rintro _ rfl
   rw [zg2 hs (show m < l.length by omega)]
   refine ⟨fun h2 => ⟨by omega, fun _ => ?_⟩, fun h2 => ?_⟩
   ·have h2 := of_decide_eq_true h2
    have h3 : ¬ a.at_ l ≤ m := fun g => by rw [decide_eq_true g] at h2; simp at h2
    rw [if_pos trivial]
    exact ⟨⟨(m + 1, j), by show m + 1 ≤ j; omega, hjl, by show m + 1 ≤ a.at_ l; omega, haj⟩, by show j - (m + 1) < j - i; omega, by simp [SBs, fxS, za], trivial, by kernel_rfl, Nat.zero_le _⟩
   ·have h2 := of_decide_eq_false h2
    have h3 : a.at_ l ≤ m := Classical.byContradiction fun g => by rw [decide_eq_false g] at h2; simp at h2
    rw [if_pos trivial]
    exact ⟨⟨(i, m), hmi, by show m ≤ l.length; omega, hia, h3⟩, by show m - i < j - i; omega, by simp [SBs, fxS, za], trivial, by kernel_rfl, Nat.zero_le _⟩
  ·have h := of_decide_eq_false h
   have e : i = a.at_ l := by omega
   refine ⟨fun h => by have := of_decide_eq_true h; omega, fun _ => ⟨(l.getD i Fx.nil, a.name), fun _ => ⟨by simp, trivial⟩, ⟨_, fun _ => rfl⟩, fun n hn => ?_⟩⟩
   exact RetR.scal (hq (i, decide ((i : Int) < l.length) && decide (n = 0)) e) rfl (by simp [resV])
def SCb (f : List Fx) (k m i : Nat) : KV := [(2, .ptr 0 0), (4, .ptr 2 0), (8, .osl 5 3 0 m), (9, .ptr 4 0), (33, fxS f), (34, .int .i64 (f.length : Int)), (35, .int .i64 (i : Int)), (45, .undef), (46, .undef), (47, .undef), (48, .undef), (49, .undef), (77, .undef), (78, .undef), (79, .undef), (80, .undef), (81, .undef)]
def HCb (a : Ca) (f : List Fx) (c : List Ch) (k m : List Fx) : Heap := [.box [.str a.name, .str a.into, .int .i64 a.date, .str a.ratio, .str a.extra], .box [fxS f, chS c], .box [.nils, .nils], .arr c.length 4 (chG c), .box [.osl 6 3 0 k.length, .osl 3 4 0 c.length], .arr m.length 3 (fxG m), .arr k.length 3 (fxG k)]
def ZW : Ctr := ctrP true (fun p : Ca × (List Fx × List Ch) => [p.1.av, envA p.2.1 p.2.2]) (fun p => j9 p.1 ∧ envP p.2 ∧ p.2.1.length ≤ 1000000) (fun p r => r = p.1.before p.2.1 p.2.2) (fun _ (r : (List Fx × List Ch) × Int) => (.tup [.agg [.osl 0 3 0 r.1.1.length, .osl 1 4 0 r.1.2.length], .int .i64 r.2], [.arr r.1.1.length 3 (fxG r.1.1), .arr r.1.2.length 4 (chG r.1.2)]))
noncomputable def GBf : Nat → Option Ctr := fun f => if f = 10 then some (Vs) else if f = 11 then some (xf) else if f = 12 then some (Xm) else if f = 13 then some (oldC) else if f = 14 then some (bsC) else if f = 16 then some (zdy) else none
theorem zap : ∀ g c, GBf g = some c → zd Tryz.prog g c := okIf VL (okIf Yq (okIf Yi (okIf Kt (okIf zgn (okIf zdq (zp))))))
theorem Xc : zd Tryz.prog 7 ZW := by
 refine Wp (fn := Tryz.f7) (c := Tryz.f7.body.getD .skip) rfl rfl rfl fun p hp O w0 Q hq => ?_
 obtain ⟨a, f, c⟩ := p
 obtain ⟨ha, he, hfl⟩ := hp
 replace hq := hq _ rfl
 simp only at ha he hfl hq
 refine zb.run hmix zap [2, 4, 8, 9, 33, 34, 35, 45, 46, 47, 48, 49, 77, 78, 79, 80, 81] 400 (T := .ex (fun (x : Ca) => eqL [AV.agg [AV.str (Ca.name a), AV.str (Ca.into a), AV.int .i64 (Ca.date a), AV.str (Ca.ratio a), AV.str (Ca.extra a)]] [AV.agg [AV.str (Ca.name x), AV.str (Ca.into x), AV.int .i64 (Ca.date x), AV.str (Ca.ratio x), AV.str (Ca.extra x)]] ∧ j9 x) fun n => .all (fun (r : Int) => r = if Ca.ok n = true then (0 : Int) else (8 : Int)) fun n => .ite (!decide (n = 0)) (.leaf (.ret [.agg [.nils, .nils], .int .i64 n] [.box [.str (Ca.name a), .str (Ca.into a), .int .i64 (Ca.date a), .str (Ca.ratio a), .str (Ca.extra a)], .box [.sl f.length 3 (fxG f), .sl c.length 4 (chG c)], .box [.nils, .nils]])) (.ex (fun (x : List Fx × List Ch) => eqL [AV.agg [AV.sl f.length 3 (fxG f), AV.sl c.length 4 (chG c)]] [AV.agg [AV.sl x.1.length 3 (fxG x.1), AV.sl x.2.length 4 (chG x.2)]] ∧ envP x) fun n => .all (fun (r : Int) => r = errE n.1 n.2) fun n => .ite (!decide (n = 0)) (.leaf (.ret [.agg [.nils, .nils], .int .i64 n] [.box [.str (Ca.name a), .str (Ca.into a), .int .i64 (Ca.date a), .str (Ca.ratio a), .str (Ca.extra a)], .box [.sl f.length 3 (fxG f), .sl c.length 4 (chG c)], .box [.nils, .nils]])) (.ex (fun (x : List Ch) => eqL [AV.sl c.length 4 (chG c)] [AV.sl x.length 4 (chG x)] ∧ x.length < 1099511627776) fun n => .all (fun (x : Unit) => True) fun n_1 => .leaf (.loop (Prod.fst (lps K7 0)) (Prod.snd (lps K7 0)) [(2, .ptr 0 0), (4, .ptr 2 0), (8, .nils), (9, .ptr 4 0), (33, .sl f.length 3 (fxG f)), (34, .int .i64 f.length), (35, .int .i64 0), (45, .undef), (46, .undef), (47, .undef), (48, .undef), (49, .undef), (77, .undef), (78, .undef), (79, .undef), (80, .undef), (81, .undef)] [.box [.str (Ca.name a), .str (Ca.into a), .int .i64 (Ca.date a), .str (Ca.ratio a), .str (Ca.extra a)], .box [.sl f.length 3 (fxG f), .sl c.length 4 (chG c)], .box [.nils, .nils], .arr n.length 4 (chG n), .box [.nils, .osl 3 4 0 n.length]])))) (by kernel_rfl) ?_
 simp only [Tree.holds, zc, inR, lo, hi, Int.toNat_natCast]
 have bad : ∀ (e : Int) (h : Heap), a.before f c = (([], []), e) → RetR ZW 0 (upQ Q) [.agg [.nils, .nils], .int .i64 e] h := fun e h hr => by
  rw [hr] at hq
  exact zd1 e h hq
 refine ⟨a, ⟨by simp [Ca.av], ha⟩, ⟨_, rfl⟩, ?_⟩
 rintro _ rfl
 by_cases hok : ¬ a.ok = true
 ·rw [if_neg hok]
  refine ⟨fun _ => bad _ _ ?_, fun h => by simp at h⟩
  unfold Ca.before; rw [if_pos (by simpa using hok)]
 replace hok : a.ok = true := Classical.not_not.1 hok
 rw [if_pos hok]
 refine ⟨fun h => by simp at h, fun _ => ⟨(f, c), ⟨by simp [za], he⟩, ⟨_, rfl⟩, ?_⟩⟩
 rintro _ rfl
 refine ⟨fun h => ?_, fun h => ?_⟩
 ·have h : errE f c ≠ 0 := by simpa using h
  refine bad _ _ ?_
  unfold Ca.before; rw [if_neg (by simp [hok]), if_pos h]
 have hE : errE f c = 0 := by simpa using h
 clear h
 refine ⟨c, ⟨by simp [za], ?_⟩, ⟨(), trivial⟩, fun _ _ => ?_⟩
 ·have := j3.1 hE; omega
 refine zb.bear 8 3 (fxG []) rfl (by decide) (by kernel_rfl) ?_
 refine zb.zet 4 0 3 (fxG []) rfl rfl (by kernel_rfl) ?_
 refine zb.loop (ι := {i : Nat // i ≤ f.length ∧ a.err (f.take i) = 0}) (fun i => SCb f (a.kept (f.take i.1)).length (a.fresh (f.take i.1)).length i.1) (fun i => HCb a f c (a.kept (f.take i.1)) (a.fresh (f.take i.1))) (fun i => f.length - i.1) ⟨0, Nat.zero_le _, rfl⟩ 0 ?_ ?_ (by kernel_rfl)
 ·exact ⟨by simp [SCb, kq, fxS, za, Ca.fresh], by simp [HCb, fxS, chS, za, Ca.fresh, Ca.kept], by kernel_rfl, Nat.zero_le _⟩
 ·rintro ⟨i, hil, hie⟩
  obtain ⟨k, hk⟩ : ∃ k, a.kept (f.take i) = k := ⟨_, rfl⟩
  obtain ⟨m, hm⟩ : ∃ m, a.fresh (f.take i) = m := ⟨_, rfl⟩
  have hkl : k.length ≤ f.length := by rw [← hk]; exact Ca.Zw f i
  have hml : m.length ≤ f.length := by rw [← hm]; exact Ca.Jl f i
  simp only [hk, hm]
  refine zb.run hmix zap [2, 4, 8, 9, 33, 34, 35, 45, 46, 47, 48, 49, 77, 78, 79, 80, 81] 400 (T := .ite (decide ((↑i : Int) < f.length)) (.side ((0 : Int) ≤ i ∧ (↑i : Int) < f.length) (.ite (bif decide (Fx.name (List.getD f (Int.toNat (↑i : Int)) Fx.nil) = Ca.into a) then decide (Ca.date a ≤ Fx.date (List.getD f (Int.toNat (↑i : Int)) Fx.nil)) else false) (.ex (fun (x : Ca × List UInt8) => eqL [AV.agg [AV.str (Ca.name a), AV.str (Ca.into a), AV.int .i64 (Ca.date a), AV.str (Ca.ratio a), AV.str (Ca.extra a)], AV.str (Fx.value (List.getD f (Int.toNat (↑i : Int)) Fx.nil))] [AV.agg [AV.str (Ca.name x.1), AV.str (Ca.into x.1), AV.int .i64 (Ca.date x.1), AV.str (Ca.ratio x.1), AV.str (Ca.extra x.1)], AV.str x.2] ∧ j9 x.1 ∧ x.2.length < 274877906944) fun n => .all (fun (r : List UInt8 × Int) => r = Ca.old n.1 n.2) fun n => .ite (!decide (n.2 = 0)) (.leaf (.ret [.agg [.nils, .nils], .int .i64 n.2] [.box [.str (Ca.name a), .str (Ca.into a), .int .i64 (Ca.date a), .str (Ca.ratio a), .str (Ca.extra a)], .box [.sl f.length 3 (fxG f), .sl c.length 4 (chG c)], .box [.nils, .nils], .arr c.length 4 (chG c), .box [.osl 6 3 0 k.length, .osl 3 4 0 c.length], .arr m.length 3 (fxG m), .arr k.length 3 (fxG k), .box [.str (Fx.name (List.getD f (Int.toNat (↑i : Int)) Fx.nil)), .int .i64 (Fx.date (List.getD f (Int.toNat (↑i : Int)) Fx.nil)), .str (Fx.value (List.getD f (Int.toNat (↑i : Int)) Fx.nil))]])) (.side (0 = 0 ∧ m.length ≤ m.length ∧ (m.length + 1) * 40 ≤ 140737488355328) (.ite (bif !decide (Fx.name (List.getD f (Int.toNat (↑i : Int)) Fx.nil) = Ca.name a) then true else decide (Fx.date (List.getD f (Int.toNat (↑i : Int)) Fx.nil) < Ca.date a)) (.side (0 = 0 ∧ k.length ≤ k.length ∧ (k.length + 1) * 40 ≤ 140737488355328) (.side (inR .i64 ((↑i : Int) + (1 : Int))) (.leaf (.back 0 [(2, .ptr 0 0), (4, .ptr 2 0), (8, .osl 5 3 0 (m.length + 1)), (9, .ptr 4 0), (33, .sl f.length 3 (fxG f)), (34, .int .i64 f.length), (35, .int .i64 ((↑i : Int) + (1 : Int))), (45, .undef), (46, .undef), (47, .undef), (48, .undef), (49, .undef), (77, .undef), (78, .undef), (79, .undef), (80, .undef), (81, .undef)] [.box [.str (Ca.name a), .str (Ca.into a), .int .i64 (Ca.date a), .str (Ca.ratio a), .str (Ca.extra a)], .box [.sl f.length 3 (fxG f), .sl c.length 4 (chG c)], .box [.nils, .nils], .arr c.length 4 (chG c), .box [.osl 6 3 0 (k.length + 1), .osl 3 4 0 c.length], .arr (m.length + 1) 3 (appG m.length (fxG m) (zg (zf 3 [.str (Ca.name a), .int .i64 (Fx.date (List.getD f (Int.toNat (↑i : Int)) Fx.nil)), .str n.1]) 0)), .arr (k.length + 1) 3 (appG k.length (fxG k) (zg (zf 3 [.str (Fx.name (List.getD f (Int.toNat (↑i : Int)) Fx.nil)), .int .i64 (Fx.date (List.getD f (Int.toNat (↑i : Int)) Fx.nil)), .str (Fx.value (List.getD f (Int.toNat (↑i : Int)) Fx.nil))]) 0)), .box [.str (Fx.name (List.getD f (Int.toNat (↑i : Int)) Fx.nil)), .int .i64 (Fx.date (List.getD f (Int.toNat (↑i : Int)) Fx.nil)), .str (Fx.value (List.getD f (Int.toNat (↑i : Int)) Fx.nil))], .arr 1 3 (zf 3 [.str (Ca.name a), .int .i64 (Fx.date (List.getD f (Int.toNat (↑i : Int)) Fx.nil)), .str n.1]), .arr 1 3 (zf 3 [.str (Fx.name (List.getD f (Int.toNat (↑i : Int)) Fx.nil)), .int .i64 (Fx.date (List.getD f (Int.toNat (↑i : Int)) Fx.nil)), .str (Fx.value (List.getD f (Int.toNat (↑i : Int)) Fx.nil))])])))) (.side (inR .i64 ((↑i : Int) + (1 : Int))) (.leaf (.back 0 [(2, .ptr 0 0), (4, .ptr 2 0), (8, .osl 5 3 0 (m.length + 1)), (9, .ptr 4 0), (33, .sl f.length 3 (fxG f)), (34, .int .i64 f.length), (35, .int .i64 ((↑i : Int) + (1 : Int))), (45, .undef), (46, .undef), (47, .undef), (48, .undef), (49, .undef), (77, .undef), (78, .undef), (79, .undef), (80, .undef), (81, .undef)] [.box [.str (Ca.name a), .str (Ca.into a), .int .i64 (Ca.date a), .str (Ca.ratio a), .str (Ca.extra a)], .box [.sl f.length 3 (fxG f), .sl c.length 4 (chG c)], .box [.nils, .nils], .arr c.length 4 (chG c), .box [.osl 6 3 0 k.length, .osl 3 4 0 c.length], .arr (m.length + 1) 3 (appG m.length (fxG m) (zg (zf 3 [.str (Ca.name a), .int .i64 (Fx.date (List.getD f (Int.toNat (↑i : Int)) Fx.nil)), .str n.1]) 0)), .arr k.length 3 (fxG k), .box [.str (Fx.name (List.getD f (Int.toNat (↑i : Int)) Fx.nil)), .int .i64 (Fx.date (List.getD f (Int.toNat (↑i : Int)) Fx.nil)), .str (Fx.value (List.getD f (Int.toNat (↑i : Int)) Fx.nil))], .arr 1 3 (zf 3 [.str (Ca.name a), .int .i64 (Fx.date (List.getD f (Int.toNat (↑i : Int)) Fx.nil)), .str n.1])])))))) (.ite (bif !decide (Fx.name (List.getD f (Int.toNat (↑i : Int)) Fx.nil) = Ca.name a) then true else decide (Fx.date (List.getD f (Int.toNat (↑i : Int)) Fx.nil) < Ca.date a)) (.side (0 = 0 ∧ k.length ≤ k.length ∧ (k.length + 1) * 40 ≤ 140737488355328) (.side (inR .i64 ((↑i : Int) + (1 : Int))) (.leaf (.back 0 [(2, .ptr 0 0), (4, .ptr 2 0), (8, .osl 5 3 0 m.length), (9, .ptr 4 0), (33, .sl f.length 3 (fxG f)), (34, .int .i64 f.length), (35, .int .i64 ((↑i : Int) + (1 : Int))), (45, .undef), (46, .undef), (47, .undef), (48, .undef), (49, .undef), (77, .undef), (78, .undef), (79, .undef), (80, .undef), (81, .undef)] [.box [.str (Ca.name a), .str (Ca.into a), .int .i64 (Ca.date a), .str (Ca.ratio a), .str (Ca.extra a)], .box [.sl f.length 3 (fxG f), .sl c.length 4 (chG c)], .box [.nils, .nils], .arr c.length 4 (chG c), .box [.osl 6 3 0 (k.length + 1), .osl 3 4 0 c.length], .arr m.length 3 (fxG m), .arr (k.length + 1) 3 (appG k.length (fxG k) (zg (zf 3 [.str (Fx.name (List.getD f (Int.toNat (↑i : Int)) Fx.nil)), .int .i64 (Fx.date (List.getD f (Int.toNat (↑i : Int)) Fx.nil)), .str (Fx.value (List.getD f (Int.toNat (↑i : Int)) Fx.nil))]) 0)), .box [.str (Fx.name (List.getD f (Int.toNat (↑i : Int)) Fx.nil)), .int .i64 (Fx.date (List.getD f (Int.toNat (↑i : Int)) Fx.nil)), .str (Fx.value (List.getD f (Int.toNat (↑i : Int)) Fx.nil))], .arr 1 3 (zf 3 [.str (Fx.name (List.getD f (Int.toNat (↑i : Int)) Fx.nil)), .int .i64 (Fx.date (List.getD f (Int.toNat (↑i : Int)) Fx.nil)), .str (Fx.value (List.getD f (Int.toNat (↑i : Int)) Fx.nil))])])))) (.side (inR .i64 ((↑i : Int) + (1 : Int))) (.leaf (.back 0 [(2, .ptr 0 0), (4, .ptr 2 0), (8, .osl 5 3 0 m.length), (9, .ptr 4 0), (33, .sl f.length 3 (fxG f)), (34, .int .i64 f.length), (35, .int .i64 ((↑i : Int) + (1 : Int))), (45, .undef), (46, .undef), (47, .undef), (48, .undef), (49, .undef), (77, .undef), (78, .undef), (79, .undef), (80, .undef), (81, .undef)] [.box [.str (Ca.name a), .str (Ca.into a), .int .i64 (Ca.date a), .str (Ca.ratio a), .str (Ca.extra a)], .box [.sl f.length 3 (fxG f), .sl c.length 4 (chG c)], .box [.nils, .nils], .arr c.length 4 (chG c), .box [.osl 6 3 0 k.length, .osl 3 4 0 c.length], .arr m.length 3 (fxG m), .arr k.length 3 (fxG k), .box [.str (Fx.name (List.getD f (Int.toNat (↑i : Int)) Fx.nil)), .int .i64 (Fx.date (List.getD f (Int.toNat (↑i : Int)) Fx.nil)), .str (Fx.value (List.getD f (Int.toNat (↑i : Int)) Fx.nil))]])))))) (.side (inR .i64 ((↑k.length : Int) + m.length)) (.ite (decide ((1000 : Int) < k.length + (↑m.length : Int))) (.leaf (.ret [.agg [.nils, .nils], .int .i64 22] [.box [.str (Ca.name a), .str (Ca.into a), .int .i64 (Ca.date a), .str (Ca.ratio a), .str (Ca.extra a)], .box [.sl f.length 3 (fxG f), .sl c.length 4 (chG c)], .box [.nils, .nils], .arr c.length 4 (chG c), .box [.osl 6 3 0 k.length, .osl 3 4 0 c.length], .arr m.length 3 (fxG m), .arr k.length 3 (fxG k)])) (.ex (fun (x : List Fx × Ca) => eqL [AV.sl k.length 3 (zg (fxG k) 0), AV.str (Ca.name a), AV.fn 15 [] []] [AV.sl x.1.length 3 (fxG x.1), AV.str (Ca.name x.2), AV.fn 15 [] []] ∧ x.1.length < 1099511627776 ∧ List.Pairwise (fun (x y : Fx) => cmpF x y < 0) x.1) fun n => .all (fun (r : Nat × Bool) => r.1 = Ca.at_ n.2 n.1) fun n => .ex (fun (x : List Fx × List Fx × Nat) => eqL [AV.osl 0 3 0 k.length, AV.int .i64 n.1, AV.osl 1 3 0 m.length] [AV.osl 0 3 0 x.1.length, AV.int .i64 x.2.2, AV.osl 1 3 0 x.2.1.length] ∧ eqH [.arr k.length 3 (fxG k), .arr m.length 3 (fxG m)] [.arr x.1.length 3 (fxG x.1), .arr x.2.1.length 3 (fxG x.2.1)] ∧ 2 = 2 ∧ x.2.2 ≤ x.1.length ∧ x.1.length < 1099511627776 ∧ x.2.1.length < 1099511627776) fun n => .all (fun (x : Unit) => True) fun n_1 => .leaf (.ret [.agg [.osl 6 3 0 (n.1.length + n.2.1.length), .osl 3 4 0 c.length], .int .i64 0] [.box [.str (Ca.name a), .str (Ca.into a), .int .i64 (Ca.date a), .str (Ca.ratio a), .str (Ca.extra a)], .box [.sl f.length 3 (fxG f), .sl c.length 4 (chG c)], .box [.osl 6 3 0 (n.1.length + n.2.1.length), .osl 3 4 0 c.length], .arr c.length 4 (chG c), .box [.osl 6 3 0 (n.1.length + n.2.1.length), .osl 3 4 0 c.length], .dead, .arr (n.1.length + n.2.1.length) 3 (fxG (List.take n.2.2 n.1 ++ n.2.1 ++ List.drop n.2.2 n.1))]))))) (by kernel_rfl) ?_
  simp only [Tree.holds, zc, inR, lo, hi, Int.toNat_natCast]
  refine ⟨fun h => ?_, fun h => ?_⟩
  ·have hlt : i < f.length := by have := of_decide_eq_true h; omega
   obtain ⟨x, hx⟩ : ∃ x, f.getD i Fx.nil = x := ⟨_, rfl⟩
   have hxm : x ∈ f := by rw [← hx]; simp [List.getD, hlt]
   have E := Ca.Wx hlt hie
   have K := Ca.Qz (a := a) hlt
   have M := Ca.Qa (a := a) hlt
   rw [hx] at E K M
   rw [hk] at K
   rw [hm] at M
   have hhit : (bif decide (x.name = a.into) then decide (a.date ≤ x.date) else false) = a.hit x := by unfold Ca.hit; cases decide (x.name = a.into) <;> rfl
   have hkeep : (bif !decide (x.name = a.name) then true else decide (x.date < a.date)) = a.keep x := by unfold Ca.keep; cases decide (x.name = a.name) <;> rfl
   simp only [hx, hhit, hkeep]
   refine ⟨by omega, fun _ => ⟨fun hH => ?_, fun hH => ?_⟩⟩
   ·rw [if_pos hH] at M
    refine ⟨(a, x.value), ⟨by simp [Ca.av], ha, ?_⟩, ⟨_, rfl⟩, ?_⟩
    ·have h3 := j3.1 hE
     have h4 := List.all_eq_true.1 h3.2.1 x hxm
     unfold okF at h4
     simp only [Bool.and_eq_true, decide_eq_true_eq] at h4
     have := Z4 h4.2
     show x.value.length < 2 ^ 38
     omega
    rintro _ rfl
    refine ⟨fun h2 => ?_, fun h2 => ?_⟩
    ·have h2 : (a.old x.value).2 ≠ 0 := by simpa using h2
     have hbd : a.bad x = true := by unfold Ca.bad; rw [hH, Bool.true_and]; exact decide_eq_true h2
     have hst := Ca.Wq hlt hie (by rw [hx]; exact hbd)
     rw [hx] at hst
     refine bad _ _ ?_
     unfold Ca.before; rw [if_neg (by simp [hok]), if_neg (by simp [hE]), hst, if_pos h2]
    ·have h2 : (a.old x.value).2 = 0 := by simpa using h2
     have hbd : ¬ a.bad x = true := by unfold Ca.bad; rw [hH, Bool.true_and]; simp [h2]
     rw [if_neg hbd] at E
     refine ⟨⟨trivial, Nat.le_refl _, by omega⟩, fun _ => ⟨fun hK => ?_, fun hK => ?_⟩⟩
     ·rw [if_pos hK] at K
      refine ⟨⟨trivial, Nat.le_refl _, by omega⟩, fun _ => ⟨by omega, fun _ => ?_⟩⟩
      rw [if_pos trivial]
      refine ⟨⟨i + 1, hlt, E⟩, by show f.length - (i + 1) < f.length - i; omega, by simp [SCb, fxS, za, K, M], ?_, by kernel_rfl, Nat.zero_le _⟩
      have p1 := jy (l := m) (x := ⟨a.name, x.date, (a.old x.value).1⟩) (za _ _ (fxG m))
      have p2 := jy (l := k) (x := x) (za _ _ (fxG k))
      simp only at p1 p2
      simp [HCb, fxS, chS, K, M, za, p1, p2]
     ·rw [if_neg (by simpa using hK)] at K
      refine ⟨by omega, fun _ => ?_⟩
      rw [if_pos trivial]
      refine ⟨⟨i + 1, hlt, E⟩, by show f.length - (i + 1) < f.length - i; omega, by simp [SCb, fxS, za, K, M], ?_, by kernel_rfl, Nat.zero_le _⟩
      have p1 := jy (l := m) (x := ⟨a.name, x.date, (a.old x.value).1⟩) (za _ _ (fxG m))
      simp only at p1
      simp [HCb, fxS, chS, K, M, za, p1]
   ·rw [if_neg (by simpa using hH)] at M
    have hbd : ¬ a.bad x = true := by unfold Ca.bad; rw [hH]; simp
    rw [if_neg hbd] at E
    refine ⟨fun hK => ?_, fun hK => ?_⟩
    ·rw [if_pos hK] at K
     refine ⟨⟨trivial, Nat.le_refl _, by omega⟩, fun _ => ⟨by omega, fun _ => ?_⟩⟩
     rw [if_pos trivial]
     refine ⟨⟨i + 1, hlt, E⟩, by show f.length - (i + 1) < f.length - i; omega, by simp [SCb, fxS, za, K, M], ?_, by kernel_rfl, Nat.zero_le _⟩
     have p2 := jy (l := k) (x := x) (za _ _ (fxG k))
     simp [HCb, fxS, chS, K, M, za, p2]
    ·rw [if_neg (by simpa using hK)] at K
     refine ⟨by omega, fun _ => ?_⟩
     rw [if_pos trivial]
     exact ⟨⟨i + 1, hlt, E⟩, by show f.length - (i + 1) < f.length - i; omega, by simp [SCb, fxS, za, K, M], by simp [HCb, fxS, chS, K, M, za], by kernel_rfl, Nat.zero_le _⟩
  ·have hge : i = f.length := by have := of_decide_eq_false h; omega
   rw [hge, List.take_length] at hk hm hie
   have hB : a.before f c = if 1000 < k.length + m.length then (([], []), 22) else ((a.join k m, c), 0) := by
    unfold Ca.before
    rw [if_neg (by simp [hok]), if_neg (by simp [hE]), if_neg (by simp [hie]), hk, hm]
   refine ⟨by omega, fun _ => ⟨fun h2 => ?_, fun h2 => ?_⟩⟩
   ·have h2 := of_decide_eq_true h2
    rw [if_pos (by omega)] at hB
    exact bad _ _ hB
   ·have h2 := of_decide_eq_false h2
    rw [if_neg (by omega)] at hB
    have hpk : k.Pairwise fun x y => cmpF x y < 0 := by rw [← hk]; exact (Ca.Xl hE).2
    refine ⟨(k, a), ⟨by simp [fxS, jH], by show k.length < 2 ^ 40; omega, hpk⟩, ⟨(a.at_ k, false), rfl⟩, ?_⟩
    rintro ⟨n, b⟩ hn
    simp only at hn
    subst hn
    refine ⟨(k, m, a.at_ k), ⟨by simp, by simp [za], trivial, Ca.QR, by show k.length < 2 ^ 40; omega, by show m.length < 2 ^ 40; omega⟩, ⟨(), trivial⟩, fun _ _ => ?_⟩
    have hjl : (a.join k m).length = k.length + m.length := by
     have := Ca.QR (a := a) (l := k)
     unfold Ca.join
     simp only [List.length_append, List.length_take, List.length_drop]
     omega
    rw [hB] at hq
    simp only [hjl] at hq
    refine RetR.outs [6, 3] rfl rfl (.inl hq) (fun _ => ⟨?_, ?_⟩) ?_ ?_ rfl
    ·simp [resV, new2, new1, new0, zA, zR]
    ·simp only [List.mem_cons, List.not_mem_nil, or_false, forall_eq_or_imp, forall_eq]
     have := uQ (za (k.length + m.length) 3 (fxG (a.join k m)))
     exact ⟨by rw [← hjl] at this ⊢; exact this, yo (za _ _ _)⟩
    ·simp [resV, exp2, exp1, exp0, zA, ren0, eqA2, eqL1]
    ·exact ⟨⟨rfl, rfl, za _ _ _⟩, ⟨rfl, rfl, za _ _ _⟩, trivial⟩
end Go.Proofs.Tryz
end

/- Corporate actions: the reference's world before. -/
section
set_option maxRecDepth 100000
open Go Go.Sx Go.Proofs Go.Nov
namespace Go.Proofs.Tryz
attribute [local simp] eqKV eqA eqA0 eqH eqB eqL eqL0
noncomputable def K8 : List Go.Sx.Item := [.code (Tryz.f8.body.getD .skip)]
def vA : Ctr := ctrP false (fun p : Ca × (List Fx × List Ch) => [p.1.av, envA p.2.1 p.2.2]) (fun p => j9 p.1 ∧ envP p.2 ∧ p.2.1.length ≤ 1000000) (fun p r => r = p.1.before p.2.1 p.2.2) (fun _ (r : (List Fx × List Ch) × Int) => (.tup [envA r.1.1 r.1.2, .int .i64 r.2], []))
noncomputable def GRb : Nat → Option Ctr := fun f => if f = 17 then some (We) else if f = 18 then some (xf) else if f = 19 then some (oldC) else if f = 20 then some (XW) else none
theorem uW : ∀ g c, GRb g = some c → zd Tryz.prog g c := okIf Kw (okIf uZ (okIf zd4 (okIf zd8 (zp))))
def SR1 (n i : Nat) : KV := [(2, .ptr 0 0), (3, .ptr 1 0), (4, .ptr 2 0), (7, .ptr 4 0), (8, .int .i64 (n : Int)), (9, .int .i64 (i : Int)), (11, .undef), (12, .undef), (16, .undef), (52, .undef), (53, .undef), (54, .undef), (55, .undef), (56, .undef), (84, .undef), (85, .undef), (86, .undef), (87, .undef), (88, .undef)]
def HR1 (a : Ca) (f : List Fx) (c : List Ch) (k : List Fx) : Heap := [.box [.str a.name, .str a.into, .int .i64 a.date, .str a.ratio, .str a.extra], .box [fxS f, chS c], .box [.nils, .nils], .arr c.length 4 (chG c), .box [.osl 5 3 0 k.length, .osl 3 4 0 c.length], .arr k.length 3 (fxG k)]
theorem UY (n sz : Nat) (g g' : Nat → Nat → AV) : eqG n sz (appG 0 g g') g' := by have := vB n sz g g'; simpa using this
def SR2 (n i m : Nat) : KV := [(2, .ptr 0 0), (3, .ptr 1 0), (4, .ptr 2 0), (7, .ptr 4 0), (8, .int .i64 (n : Int)), (9, .undef), (11, .osl 6 3 0 m), (12, .int .i64 (i : Int)), (16, .undef), (52, .undef), (53, .undef), (54, .undef), (55, .undef), (56, .undef), (84, .undef), (85, .undef), (86, .undef), (87, .undef), (88, .undef)]
def HR2 (a : Ca) (f : List Fx) (c : List Ch) (k m : List Fx) : Heap := [.box [.str a.name, .str a.into, .int .i64 a.date, .str a.ratio, .str a.extra], .box [fxS f, chS c], .box [.nils, .nils], .arr c.length 4 (chG c), .box [.osl 5 3 0 k.length, .osl 3 4 0 c.length], .arr k.length 3 (fxG k), .arr m.length 3 (fxG m)]
def SR3 (m i : Nat) : KV := [(2, .ptr 0 0), (3, .ptr 1 0), (4, .ptr 2 0), (7, .ptr 4 0), (8, .undef), (9, .undef), (11, .osl 6 3 0 m), (12, .undef), (16, .int .i64 (i : Int)), (52, .undef), (53, .undef), (54, .undef), (55, .undef), (56, .undef), (84, .undef), (85, .undef), (86, .undef), (87, .undef), (88, .undef)]
def HR3 (a : Ca) (f : List Fx) (c : List Ch) (j m : List Fx) : Heap := [.box [.str a.name, .str a.into, .int .i64 a.date, .str a.ratio, .str a.extra], .box [fxS f, chS c], .box [.nils, .nils], .dead, .box [fxS j, chS c], .dead, .arr m.length 3 (fxG m)]
theorem ua {x : Fx} (h : okF x = true) : jd x := by
 unfold okF zD at h
 simp only [Bool.and_eq_true, decide_eq_true_eq] at h
 have h2 := Z4 h.2
 exact ⟨by omega, by omega⟩
theorem Yh {x : Ch} (h : okC x = true) : vX x := by
 unfold okC zD at h
 simp only [Bool.and_eq_true, decide_eq_true_eq] at h
 exact ⟨by omega, by omega⟩
theorem QU {f : List Fx} {c : List Ch} (h : errE f c = 0) : envP (f, c) := by
 obtain ⟨h1, h2, h3, _⟩ := j3.1 h
 rw [List.all_eq_true] at h2 h3
 refine ⟨by show f.length < _; omega, by show c.length < _; omega, fun j hj => ua (h2 _ ?_), fun j hj => Yh (h3 _ ?_)⟩
 ·simp only at hj ⊢; simp [List.getD, hj]
 ·simp only at hj ⊢; simp [List.getD, hj]
theorem za0 {O : Nat → Prop} {w0 : World} {Q : AV × Heap → Prop} {Hs : Nat → KV → Heap → Prop} (a : Ca) (f : List Fx) (c : List Ch) (k m : List Fx) (hk : a.kept f = k) (hm : a.fresh f = m) (hok : a.ok = true) (hE : errE f c = 0) (he0 : a.err f = 0) (hlen : k.length + m.length ≤ 1000)
  (hq : Q (.tup [envA (a.join k m) c, .int .i64 0], [])) (kv : KV) (h : Heap) (hle : LeK 0 Tryz.f8.ntmps kv h (SR3 m.length 0) (HR2 a f c k m)) :
  zb Tryz.prog Tryz.f8 O 0 w0 [] Hs (RetR vA 0 Q) (.code (.loop (lps (inside (inside K8 0) 0) 0).1) :: (lps (inside (inside K8 0) 0) 0).2) (mk Tryz.f8.ntmps kv h) := by
 have P := Ca.puts hok hE he0 (by rw [hk, hm]; exact hlen)
 rw [hk, hm] at P
 refine zb.loop (ι := {i : Nat // i ≤ m.length}) (fun i => SR3 m.length i.1) (fun i => if i.1 = 0 then HR2 a f c k m else HR3 a f c (a.join k (m.take i.1)) m) (fun i => m.length - i.1) ⟨0, Nat.zero_le _⟩ 0 ?_ ?_ (by kernel_rfl)
 ·exact hle
 ·rintro ⟨i, hil⟩
  simp only
  have step : ∀ (j : List Fx) (i : Nat) (kv' : KV) (h' : Heap), a.join k (m.take i) = j → i < m.length → LeK 0 Tryz.f8.ntmps kv' h' (SR3 m.length (i + 1)) (HR3 a f c (a.join k (m.take (i + 1))) m) → ∃ x' : {i : Nat // i ≤ m.length}, m.length - x'.1 < m.length - i ∧ LeK 0 Tryz.f8.ntmps kv' h' (SR3 m.length x'.1) (if x'.1 = 0 then HR2 a f c k m else HR3 a f c (a.join k (m.take x'.1)) m) := by
   intro j i kv' h' hj hlt hh
   exact ⟨⟨i + 1, hlt⟩, by show m.length - (i + 1) < m.length - i; omega, by simp only; rw [if_neg (by omega)]; exact hh⟩
  rcases i with _ | i
  ·rw [if_pos rfl]
   refine zb.run hmix uW [2, 3, 4, 7, 8, 9, 11, 12, 16, 52, 53, 54, 55, 56, 84, 85, 86, 87, 88] 400 (T := .ite (decide ((0 : Int) < m.length)) (.side ((0 : Int) ≤ 0 ∧ (0 : Int) < m.length) (.all (fun (x : Bool) => True) fun n => .ite n (.ex (fun (x : (List Fx × List Ch) × Fx) => eqL [AV.agg [AV.sl k.length 3 (zg (fxG k) 0), AV.sl c.length 4 (zg (chG c) 0)], AV.agg [AV.str (Fx.name (m.getD 0 Fx.nil)), AV.int .i64 (Fx.date (m.getD 0 Fx.nil)), AV.str (Fx.value (m.getD 0 Fx.nil))]] [AV.agg [AV.sl x.1.1.length 3 (fxG x.1.1), AV.sl x.1.2.length 4 (chG x.1.2)], AV.agg [AV.str x.2.name, AV.int .i64 x.2.date, AV.str x.2.value]] ∧ envP x.1 ∧ jd x.2) fun n => .all (fun (r : (List Fx × List Ch) × Int) => r = putF n.1.1 n.1.2 n.2) fun n => .ite (!decide (n.2 = 0)) (.leaf (.ret [.agg [.nils, .nils], .int .i64 n.2] [.box [.str (Ca.name a), .str (Ca.into a), .int .i64 (Ca.date a), .str (Ca.ratio a), .str (Ca.extra a)], .box [.sl f.length 3 (fxG f), .sl c.length 4 (chG c)], .box [.nils, .nils], .arr c.length 4 (chG c), .box [.osl 5 3 0 k.length, .osl 3 4 0 c.length], .arr k.length 3 (fxG k), .arr m.length 3 (fxG m), .box [.sl n.1.1.length 3 (fxG n.1.1), .sl n.1.2.length 4 (chG n.1.2)]])) (.side (inR .i64 (1 : Int)) (.leaf (.back 0 [(2, .ptr 0 0), (3, .ptr 1 0), (4, .ptr 2 0), (7, .ptr 4 0), (8, .undef), (9, .undef), (11, .osl 6 3 0 m.length), (12, .undef), (16, .int .i64 1), (52, .undef), (53, .undef), (54, .undef), (55, .undef), (56, .undef), (84, .undef), (85, .undef), (86, .undef), (87, .undef), (88, .undef)] [.box [.str (Ca.name a), .str (Ca.into a), .int .i64 (Ca.date a), .str (Ca.ratio a), .str (Ca.extra a)], .box [.sl f.length 3 (fxG f), .sl c.length 4 (chG c)], .box [.nils, .nils], .arr c.length 4 (chG c), .box [.sl n.1.1.length 3 (fxG n.1.1), .sl n.1.2.length 4 (chG n.1.2)], .arr k.length 3 (fxG k), .arr m.length 3 (fxG m), .box [.sl n.1.1.length 3 (fxG n.1.1), .sl n.1.2.length 4 (chG n.1.2)]])))) (.ex (fun (x : (List Fx × List Ch) × Fx) => eqL [AV.agg [AV.sl k.length 3 (zg (fxG k) 0), AV.sl c.length 4 (zg (chG c) 0)], AV.agg [AV.str (Fx.name (m.getD 0 Fx.nil)), AV.int .i64 (Fx.date (m.getD 0 Fx.nil)), AV.str (Fx.value (m.getD 0 Fx.nil))]] [AV.agg [AV.sl x.1.1.length 3 (fxG x.1.1), AV.sl x.1.2.length 4 (chG x.1.2)], AV.agg [AV.str x.2.name, AV.int .i64 x.2.date, AV.str x.2.value]] ∧ envP x.1 ∧ jd x.2) fun n => .all (fun (r : (List Fx × List Ch) × Int) => r = putF n.1.1 n.1.2 n.2) fun n => .ite (!decide (n.2 = 0)) (.leaf (.ret [.agg [.nils, .nils], .int .i64 n.2] [.box [.str (Ca.name a), .str (Ca.into a), .int .i64 (Ca.date a), .str (Ca.ratio a), .str (Ca.extra a)], .box [.sl f.length 3 (fxG f), .sl c.length 4 (chG c)], .box [.nils, .nils], .arr c.length 4 (chG c), .box [.osl 5 3 0 k.length, .osl 3 4 0 c.length], .arr k.length 3 (fxG k), .arr m.length 3 (fxG m), .box [.sl n.1.1.length 3 (fxG n.1.1), .sl n.1.2.length 4 (chG n.1.2)]])) (.side (inR .i64 (1 : Int)) (.leaf (.back 0 [(2, .ptr 0 0), (3, .ptr 1 0), (4, .ptr 2 0), (7, .ptr 4 0), (8, .undef), (9, .undef), (11, .osl 6 3 0 m.length), (12, .undef), (16, .int .i64 1), (52, .undef), (53, .undef), (54, .undef), (55, .undef), (56, .undef), (84, .undef), (85, .undef), (86, .undef), (87, .undef), (88, .undef)] [.box [.str (Ca.name a), .str (Ca.into a), .int .i64 (Ca.date a), .str (Ca.ratio a), .str (Ca.extra a)], .box [.sl f.length 3 (fxG f), .sl c.length 4 (chG c)], .box [.nils, .nils], .arr c.length 4 (chG c), .box [.sl n.1.1.length 3 (fxG n.1.1), .sl n.1.2.length 4 (chG n.1.2)], .arr k.length 3 (fxG k), .arr m.length 3 (fxG m), .box [.sl n.1.1.length 3 (fxG n.1.1), .sl n.1.2.length 4 (chG n.1.2)]])))))) (.leaf (.ret [.agg [.osl 5 3 0 k.length, .osl 3 4 0 c.length], .int .i64 0] [.box [.str (Ca.name a), .str (Ca.into a), .int .i64 (Ca.date a), .str (Ca.ratio a), .str (Ca.extra a)], .box [.sl f.length 3 (fxG f), .sl c.length 4 (chG c)], .box [.osl 5 3 0 k.length, .osl 3 4 0 c.length], .arr c.length 4 (chG c), .box [.osl 5 3 0 k.length, .osl 3 4 0 c.length], .arr k.length 3 (fxG k), .arr m.length 3 (fxG m)]))) (by kernel_rfl) ?_
   simp only [Tree.holds, zc, inR, lo, hi, Int.toNat_natCast, Nat.zero_add]
   refine ⟨fun h => ?_, fun h => ?_⟩
   ·have hlt : 0 < m.length := by have := of_decide_eq_true h; omega
    obtain ⟨p1, p2⟩ := P 0 hlt
    simp only [List.take_zero, Ca.join_nil] at p1 p2
    have f1 := (Ca.Z7 hok hE he0).1
    rw [hm] at f1
    have hs : jd (m.getD 0 Fx.nil) := ua (f1 _ (by simp [List.getD, hlt])).1
    refine ⟨by omega, fun _ => ⟨⟨true, trivial⟩, fun _ _ => ⟨fun _ => ?_, fun _ => ?_⟩⟩⟩
    all_goals
     refine ⟨((k, c), m.getD 0 Fx.nil), ⟨by simp [jH, Fx.av], QU p2, hs⟩, ⟨_, rfl⟩, ?_⟩
     simp only
     rw [p1]
     rintro _ rfl
     refine ⟨fun h => by simp at h, fun _ => ⟨by omega, fun _ => ?_⟩⟩
     rw [if_pos trivial]
     exact step _ 0 _ _ rfl hlt ⟨by simp [SR3], by simp [HR3, fxS, chS, za], by kernel_rfl, Nat.zero_le _⟩
   ·have hm0 : m = [] := by
     have := of_decide_eq_false h
     exact List.eq_nil_of_length_eq_zero (by omega)
    subst hm0
    rw [Ca.join_nil] at hq
    exact RetR.out0 hq (fun h => by cases h) (by simp [resV, exp2, exp1, exp0, zA, frz1, wh, ren0, eqA2, eqL1, envA, fxS, chS, jH])
  ·rw [if_neg (by omega)]
   obtain ⟨j, hj⟩ : ∃ j, a.join k (m.take (i + 1)) = j := ⟨_, rfl⟩
   rw [hj]
   refine zb.run hmix uW [2, 3, 4, 7, 8, 9, 11, 12, 16, 52, 53, 54, 55, 56, 84, 85, 86, 87, 88] 400 (T := .ite (decide ((↑(i + 1) : Int) < m.length)) (.side ((0 : Int) ≤ (↑(i + 1) : Int) ∧ (↑(i + 1) : Int) < m.length) (.all (fun (x : Bool) => True) fun n => .ite n (.ex (fun (x : (List Fx × List Ch) × Fx) => eqL [AV.agg [AV.sl j.length 3 (fxG j), AV.sl c.length 4 (chG c)], AV.agg [AV.str (Fx.name (List.getD m (0 + Int.toNat (↑(i + 1) : Int)) Fx.nil)), AV.int .i64 (Fx.date (List.getD m (0 + Int.toNat (↑(i + 1) : Int)) Fx.nil)), AV.str (Fx.value (List.getD m (0 + Int.toNat (↑(i + 1) : Int)) Fx.nil))]] [AV.agg [AV.sl x.1.1.length 3 (fxG x.1.1), AV.sl x.1.2.length 4 (chG x.1.2)], AV.agg [AV.str x.2.name, AV.int .i64 x.2.date, AV.str x.2.value]] ∧ envP x.1 ∧ jd x.2) fun n => .all (fun (r : (List Fx × List Ch) × Int) => r = putF n.1.1 n.1.2 n.2) fun n => .ite (!decide (n.2 = 0)) (.leaf (.ret [.agg [.nils, .nils], .int .i64 n.2] [.box [.str (Ca.name a), .str (Ca.into a), .int .i64 (Ca.date a), .str (Ca.ratio a), .str (Ca.extra a)], .box [.sl f.length 3 (fxG f), .sl c.length 4 (chG c)], .box [.nils, .nils], .dead, .box [.sl j.length 3 (fxG j), .sl c.length 4 (chG c)], .dead, .arr m.length 3 (fxG m), .box [.sl n.1.1.length 3 (fxG n.1.1), .sl n.1.2.length 4 (chG n.1.2)]])) (.side (inR .i64 ((↑(i + 1) : Int) + (1 : Int))) (.leaf (.back 0 [(2, .ptr 0 0), (3, .ptr 1 0), (4, .ptr 2 0), (7, .ptr 4 0), (8, .undef), (9, .undef), (11, .osl 6 3 0 m.length), (12, .undef), (16, .int .i64 ((↑(i + 1) : Int) + (1 : Int))), (52, .undef), (53, .undef), (54, .undef), (55, .undef), (56, .undef), (84, .undef), (85, .undef), (86, .undef), (87, .undef), (88, .undef)] [.box [.str (Ca.name a), .str (Ca.into a), .int .i64 (Ca.date a), .str (Ca.ratio a), .str (Ca.extra a)], .box [.sl f.length 3 (fxG f), .sl c.length 4 (chG c)], .box [.nils, .nils], .dead, .box [.sl n.1.1.length 3 (fxG n.1.1), .sl n.1.2.length 4 (chG n.1.2)], .dead, .arr m.length 3 (fxG m), .box [.sl n.1.1.length 3 (fxG n.1.1), .sl n.1.2.length 4 (chG n.1.2)]])))) (.ex (fun (x : (List Fx × List Ch) × Fx) => eqL [AV.agg [AV.sl j.length 3 (fxG j), AV.sl c.length 4 (chG c)], AV.agg [AV.str (Fx.name (List.getD m (0 + Int.toNat (↑(i + 1) : Int)) Fx.nil)), AV.int .i64 (Fx.date (List.getD m (0 + Int.toNat (↑(i + 1) : Int)) Fx.nil)), AV.str (Fx.value (List.getD m (0 + Int.toNat (↑(i + 1) : Int)) Fx.nil))]] [AV.agg [AV.sl x.1.1.length 3 (fxG x.1.1), AV.sl x.1.2.length 4 (chG x.1.2)], AV.agg [AV.str x.2.name, AV.int .i64 x.2.date, AV.str x.2.value]] ∧ envP x.1 ∧ jd x.2) fun n => .all (fun (r : (List Fx × List Ch) × Int) => r = putF n.1.1 n.1.2 n.2) fun n => .ite (!decide (n.2 = 0)) (.leaf (.ret [.agg [.nils, .nils], .int .i64 n.2] [.box [.str (Ca.name a), .str (Ca.into a), .int .i64 (Ca.date a), .str (Ca.ratio a), .str (Ca.extra a)], .box [.sl f.length 3 (fxG f), .sl c.length 4 (chG c)], .box [.nils, .nils], .dead, .box [.sl j.length 3 (fxG j), .sl c.length 4 (chG c)], .dead, .arr m.length 3 (fxG m), .box [.sl n.1.1.length 3 (fxG n.1.1), .sl n.1.2.length 4 (chG n.1.2)]])) (.side (inR .i64 ((↑(i + 1) : Int) + (1 : Int))) (.leaf (.back 0 [(2, .ptr 0 0), (3, .ptr 1 0), (4, .ptr 2 0), (7, .ptr 4 0), (8, .undef), (9, .undef), (11, .osl 6 3 0 m.length), (12, .undef), (16, .int .i64 ((↑(i + 1) : Int) + (1 : Int))), (52, .undef), (53, .undef), (54, .undef), (55, .undef), (56, .undef), (84, .undef), (85, .undef), (86, .undef), (87, .undef), (88, .undef)] [.box [.str (Ca.name a), .str (Ca.into a), .int .i64 (Ca.date a), .str (Ca.ratio a), .str (Ca.extra a)], .box [.sl f.length 3 (fxG f), .sl c.length 4 (chG c)], .box [.nils, .nils], .dead, .box [.sl n.1.1.length 3 (fxG n.1.1), .sl n.1.2.length 4 (chG n.1.2)], .dead, .arr m.length 3 (fxG m), .box [.sl n.1.1.length 3 (fxG n.1.1), .sl n.1.2.length 4 (chG n.1.2)]])))))) (.leaf (.ret [.agg [.sl j.length 3 (fxG j), .sl c.length 4 (chG c)], .int .i64 0] [.box [.str (Ca.name a), .str (Ca.into a), .int .i64 (Ca.date a), .str (Ca.ratio a), .str (Ca.extra a)], .box [.sl f.length 3 (fxG f), .sl c.length 4 (chG c)], .box [.sl j.length 3 (fxG j), .sl c.length 4 (chG c)], .dead, .box [.sl j.length 3 (fxG j), .sl c.length 4 (chG c)], .dead, .arr m.length 3 (fxG m)]))) (by kernel_rfl) ?_
   simp only [Tree.holds, zc, inR, lo, hi, Int.toNat_natCast, Nat.zero_add]
   refine ⟨fun h => ?_, fun h => ?_⟩
   ·have hlt : i + 1 < m.length := by have := of_decide_eq_true h; omega
    obtain ⟨p1, p2⟩ := P (i + 1) hlt
    rw [hj] at p1 p2
    have f1 := (Ca.Z7 hok hE he0).1
    rw [hm] at f1
    have hs : jd (m.getD (i + 1) Fx.nil) := ua (f1 _ (by simp [List.getD, hlt])).1
    refine ⟨by omega, fun _ => ⟨⟨true, trivial⟩, fun _ _ => ⟨fun _ => ?_, fun _ => ?_⟩⟩⟩
    all_goals
     refine ⟨((j, c), m.getD (i + 1) Fx.nil), ⟨by simp [za, Fx.av], QU p2, hs⟩, ⟨_, rfl⟩, ?_⟩
     simp only
     rw [p1]
     rintro _ rfl
     refine ⟨fun h => by simp at h, fun _ => ⟨by omega, fun _ => ?_⟩⟩
     rw [if_pos trivial]
     exact step _ (i + 1) _ _ rfl hlt ⟨by simp [SR3], by simp [HR3, fxS, chS, za], by kernel_rfl, Nat.zero_le _⟩
   ·have hge : i + 1 = m.length := by have := of_decide_eq_false h; omega
    rw [hge, List.take_length] at hj
    rw [hj] at hq
    exact RetR.out0 hq (fun h => by cases h) (by simp [resV, exp2, exp1, exp0, ren0, eqA2, eqL1, envA, fxS, chS, za])
theorem zfn {O : Nat → Prop} {w0 : World} {Q : AV × Heap → Prop} {Hs : Nat → KV → Heap → Prop} (a : Ca) (f : List Fx) (c : List Ch) (k : List Fx) (n : Nat) (hk : a.kept f = k) (ha : j9 a) (hfl : f.length ≤ 1000000) (hok : a.ok = true) (hE : errE f c = 0)
  (hq : Q (.tup [envA (a.before f c).1.1 (a.before f c).1.2, .int .i64 (a.before f c).2], [])) (kv : KV) (h : Heap) (hle : LeK 0 Tryz.f8.ntmps kv h (SR2 k.length 0 0) (HR2 a f c k [])) :
  zb Tryz.prog Tryz.f8 O 0 w0 [] Hs (RetR vA 0 Q) (.code (.loop (lps (inside K8 0) 0).1) :: (lps (inside K8 0) 0).2) (mk Tryz.f8.ntmps kv h) := by
 have bad : ∀ (e : Int) (h : Heap), a.before f c = (([], []), e) → RetR vA 0 Q [.agg [.nils, .nils], .int .i64 e] h := fun e h hr => by
  rw [hr] at hq
  exact RetR.out0 hq (fun h => by cases h) (by simp [resV, exp2, exp1, exp0, ren0, eqA2, eqL1, envA, fxS, chS])
 refine zb.loop (ι := {i : Nat // i ≤ f.length ∧ a.err (f.take i) = 0}) (fun i => SR2 k.length i.1 (a.fresh (f.take i.1)).length) (fun i => HR2 a f c k (a.fresh (f.take i.1))) (fun i => f.length - i.1) ⟨0, Nat.zero_le _, rfl⟩ 0 ?_ ?_ (by kernel_rfl)
 ·exact hle
 ·rintro ⟨i, hil, hie⟩
  obtain ⟨m, hm⟩ : ∃ m, a.fresh (f.take i) = m := ⟨_, rfl⟩
  have hkl : k.length ≤ f.length := by rw [← hk]; have := Ca.Zw (a := a) f f.length; simpa using this
  have hml : m.length ≤ f.length := by rw [← hm]; exact Ca.Jl f i
  simp only [hm]
  refine zb.run hmix uW [2, 3, 4, 7, 8, 9, 11, 12, 16, 52, 53, 54, 55, 56, 84, 85, 86, 87, 88] 400 (T := .ite (decide ((↑i : Int) < f.length)) (.side ((0 : Int) ≤ i ∧ (↑i : Int) < f.length) (.ite (bif !decide (Fx.name (List.getD f (Int.toNat (↑i : Int)) Fx.nil) = Ca.into a) then true else decide (Fx.date (List.getD f (Int.toNat (↑i : Int)) Fx.nil) < Ca.date a)) (.side (inR .i64 ((↑i : Int) + (1 : Int))) (.leaf (.back 0 [(2, .ptr 0 0), (3, .ptr 1 0), (4, .ptr 2 0), (7, .ptr 4 0), (8, .int .i64 k.length), (9, .undef), (11, .osl 6 3 0 m.length), (12, .int .i64 ((↑i : Int) + (1 : Int))), (16, .undef), (52, .undef), (53, .undef), (54, .undef), (55, .undef), (56, .undef), (84, .undef), (85, .undef), (86, .undef), (87, .undef), (88, .undef)] [.box [.str (Ca.name a), .str (Ca.into a), .int .i64 (Ca.date a), .str (Ca.ratio a), .str (Ca.extra a)], .box [.sl f.length 3 (fxG f), .sl c.length 4 (chG c)], .box [.nils, .nils], .arr c.length 4 (chG c), .box [.osl 5 3 0 k.length, .osl 3 4 0 c.length], .arr k.length 3 (fxG k), .arr m.length 3 (fxG m), .box [.str (Fx.name (List.getD f (Int.toNat (↑i : Int)) Fx.nil)), .int .i64 (Fx.date (List.getD f (Int.toNat (↑i : Int)) Fx.nil)), .str (Fx.value (List.getD f (Int.toNat (↑i : Int)) Fx.nil))]]))) (.ex (fun (x : Ca × List UInt8) => eqL [AV.agg [AV.str (Ca.name a), AV.str (Ca.into a), AV.int .i64 (Ca.date a), AV.str (Ca.ratio a), AV.str (Ca.extra a)], AV.str (Fx.value (List.getD f (Int.toNat (↑i : Int)) Fx.nil))] [AV.agg [AV.str (Ca.name x.1), AV.str (Ca.into x.1), AV.int .i64 (Ca.date x.1), AV.str (Ca.ratio x.1), AV.str (Ca.extra x.1)], AV.str x.2] ∧ j9 x.1 ∧ x.2.length < 274877906944) fun n => .all (fun (r : List UInt8 × Int) => r = Ca.old n.1 n.2) fun n => .ite (!decide (n.2 = 0)) (.leaf (.ret [.agg [.nils, .nils], .int .i64 n.2] [.box [.str (Ca.name a), .str (Ca.into a), .int .i64 (Ca.date a), .str (Ca.ratio a), .str (Ca.extra a)], .box [.sl f.length 3 (fxG f), .sl c.length 4 (chG c)], .box [.nils, .nils], .arr c.length 4 (chG c), .box [.osl 5 3 0 k.length, .osl 3 4 0 c.length], .arr k.length 3 (fxG k), .arr m.length 3 (fxG m), .box [.str (Fx.name (List.getD f (Int.toNat (↑i : Int)) Fx.nil)), .int .i64 (Fx.date (List.getD f (Int.toNat (↑i : Int)) Fx.nil)), .str (Fx.value (List.getD f (Int.toNat (↑i : Int)) Fx.nil))]])) (.side (0 = 0 ∧ m.length ≤ m.length ∧ (m.length + 1) * 40 ≤ 140737488355328) (.side (inR .i64 ((↑i : Int) + (1 : Int))) (.leaf (.back 0 [(2, .ptr 0 0), (3, .ptr 1 0), (4, .ptr 2 0), (7, .ptr 4 0), (8, .int .i64 k.length), (9, .undef), (11, .osl 6 3 0 (m.length + 1)), (12, .int .i64 ((↑i : Int) + (1 : Int))), (16, .undef), (52, .undef), (53, .undef), (54, .undef), (55, .undef), (56, .undef), (84, .undef), (85, .undef), (86, .undef), (87, .undef), (88, .undef)] [.box [.str (Ca.name a), .str (Ca.into a), .int .i64 (Ca.date a), .str (Ca.ratio a), .str (Ca.extra a)], .box [.sl f.length 3 (fxG f), .sl c.length 4 (chG c)], .box [.nils, .nils], .arr c.length 4 (chG c), .box [.osl 5 3 0 k.length, .osl 3 4 0 c.length], .arr k.length 3 (fxG k), .arr (m.length + 1) 3 (appG m.length (fxG m) (zg (zf 3 [.str (Ca.name a), .int .i64 (Fx.date (List.getD f (Int.toNat (↑i : Int)) Fx.nil)), .str n.1]) 0)), .box [.str (Fx.name (List.getD f (Int.toNat (↑i : Int)) Fx.nil)), .int .i64 (Fx.date (List.getD f (Int.toNat (↑i : Int)) Fx.nil)), .str (Fx.value (List.getD f (Int.toNat (↑i : Int)) Fx.nil))], .arr 1 3 (zf 3 [.str (Ca.name a), .int .i64 (Fx.date (List.getD f (Int.toNat (↑i : Int)) Fx.nil)), .str n.1])]))))))) (.side (inR .i64 ((↑k.length : Int) + m.length)) (.ite (decide ((1000 : Int) < k.length + (↑m.length : Int))) (.leaf (.ret [.agg [.nils, .nils], .int .i64 22] [.box [.str (Ca.name a), .str (Ca.into a), .int .i64 (Ca.date a), .str (Ca.ratio a), .str (Ca.extra a)], .box [.sl f.length 3 (fxG f), .sl c.length 4 (chG c)], .box [.nils, .nils], .arr c.length 4 (chG c), .box [.osl 5 3 0 k.length, .osl 3 4 0 c.length], .arr k.length 3 (fxG k), .arr m.length 3 (fxG m)])) (.leaf (.loop (Prod.fst (lps (inside (inside K8 0) 0) 0)) (Prod.snd (lps (inside (inside K8 0) 0) 0)) [(2, .ptr 0 0), (3, .ptr 1 0), (4, .ptr 2 0), (7, .ptr 4 0), (8, .int .i64 k.length), (9, .undef), (11, .osl 6 3 0 m.length), (12, .int .i64 i), (16, .int .i64 0), (52, .undef), (53, .undef), (54, .undef), (55, .undef), (56, .undef), (84, .undef), (85, .undef), (86, .undef), (87, .undef), (88, .undef)] [.box [.str (Ca.name a), .str (Ca.into a), .int .i64 (Ca.date a), .str (Ca.ratio a), .str (Ca.extra a)], .box [.sl f.length 3 (fxG f), .sl c.length 4 (chG c)], .box [.nils, .nils], .arr c.length 4 (chG c), .box [.osl 5 3 0 k.length, .osl 3 4 0 c.length], .arr k.length 3 (fxG k), .arr m.length 3 (fxG m)]))))) (by kernel_rfl) ?_
  simp only [Tree.holds, zc, inR, lo, hi, Int.toNat_natCast]
  refine ⟨fun h => ?_, fun h => ?_⟩
  ·have hlt : i < f.length := by have := of_decide_eq_true h; omega
   obtain ⟨x, hx⟩ : ∃ x, f.getD i Fx.nil = x := ⟨_, rfl⟩
   have hxm : x ∈ f := by rw [← hx]; simp [List.getD, hlt]
   have E := Ca.Wx hlt hie
   have M := Ca.Qa (a := a) hlt
   rw [hx] at E M
   rw [hm] at M
   have hhit : (bif !decide (x.name = a.into) then true else decide (x.date < a.date)) = !a.hit x := by
    unfold Ca.hit
    by_cases h1 : x.name = a.into <;> by_cases h2 : x.date < a.date <;> simp [h1, h2] <;> omega
   simp only [hx, hhit]
   refine ⟨by omega, fun _ => ⟨fun hH => ⟨by omega, fun _ => ?_⟩, fun hH => ?_⟩⟩
   ·have hH : a.hit x = false := by simpa using hH
    rw [if_neg (by simp [hH])] at M
    have hbd : ¬ a.bad x = true := by unfold Ca.bad; rw [hH]; simp
    rw [if_neg hbd] at E
    rw [if_pos trivial]
    exact ⟨⟨i + 1, hlt, E⟩, by show f.length - (i + 1) < f.length - i; omega, by simp [SR2, fxS, za, M], by simp [HR2, fxS, chS, M, za], by kernel_rfl, Nat.zero_le _⟩
   ·have hH : a.hit x = true := by simpa using hH
    rw [if_pos hH] at M
    refine ⟨(a, x.value), ⟨by simp [Ca.av], ha, ?_⟩, ⟨_, rfl⟩, ?_⟩
    ·have h3 := j3.1 hE
     have h4 := List.all_eq_true.1 h3.2.1 x hxm
     unfold okF at h4
     simp only [Bool.and_eq_true, decide_eq_true_eq] at h4
     have := Z4 h4.2
     show x.value.length < 2 ^ 38
     omega
    rintro _ rfl
    refine ⟨fun h2 => ?_, fun h2 => ?_⟩
    ·have h2 : (a.old x.value).2 ≠ 0 := by simpa using h2
     have hbd : a.bad x = true := by unfold Ca.bad; rw [hH, Bool.true_and]; exact decide_eq_true h2
     have hst := Ca.Wq hlt hie (by rw [hx]; exact hbd)
     rw [hx] at hst
     refine bad _ _ ?_
     unfold Ca.before; rw [if_neg (by simp [hok]), if_neg (by simp [hE]), hst, if_pos h2]
    ·have h2 : (a.old x.value).2 = 0 := by simpa using h2
     have hbd : ¬ a.bad x = true := by unfold Ca.bad; rw [hH, Bool.true_and]; simp [h2]
     rw [if_neg hbd] at E
     refine ⟨⟨trivial, Nat.le_refl _, by omega⟩, fun _ => ⟨by omega, fun _ => ?_⟩⟩
     rw [if_pos trivial]
     refine ⟨⟨i + 1, hlt, E⟩, by show f.length - (i + 1) < f.length - i; omega, by simp [SR2, fxS, za, M], ?_, by kernel_rfl, Nat.zero_le _⟩
     have p1 := jy (l := m) (x := ⟨a.name, x.date, (a.old x.value).1⟩) (za _ _ (fxG m))
     simp only at p1
     simp [HR2, fxS, chS, M, za, p1]
  ·have hge : i = f.length := by have := of_decide_eq_false h; omega
   rw [hge, List.take_length] at hm hie
   have hB : a.before f c = if 1000 < k.length + m.length then (([], []), 22) else ((a.join k m, c), 0) := by
    unfold Ca.before
    rw [if_neg (by simp [hok]), if_neg (by simp [hE]), if_neg (by simp [hie]), hk, hm]
   refine ⟨by omega, fun _ => ⟨fun h2 => ?_, fun h2 => ?_⟩⟩
   ·have h2 := of_decide_eq_true h2
    rw [if_pos (by omega)] at hB
    exact bad _ _ hB
   ·have h2 := of_decide_eq_false h2
    rw [if_neg (by omega)] at hB
    rw [hB] at hq
    exact za0 a f c k m hk hm hok hE hie (by omega) hq _ _ ⟨by simp [SR3], by simp [HR2, fxS, chS, za], by kernel_rfl, Nat.zero_le _⟩
theorem KY : zd Tryz.prog 8 vA := by
 refine ze (fn := Tryz.f8) (c := Tryz.f8.body.getD .skip) rfl rfl rfl fun p hp O w0 Q hq => ?_
 obtain ⟨a, f, c⟩ := p
 obtain ⟨ha, he, hfl⟩ := hp
 replace hq := hq _ rfl
 simp only at ha he hfl hq
 refine zb.run hmix uW [2, 3, 4, 7, 8, 9, 11, 12, 16, 52, 53, 54, 55, 56, 84, 85, 86, 87, 88] 400 (T := .ex (fun (x : Ca) => eqL [AV.agg [AV.str (Ca.name a), AV.str (Ca.into a), AV.int .i64 (Ca.date a), AV.str (Ca.ratio a), AV.str (Ca.extra a)]] [AV.agg [AV.str (Ca.name x), AV.str (Ca.into x), AV.int .i64 (Ca.date x), AV.str (Ca.ratio x), AV.str (Ca.extra x)]] ∧ j9 x) fun n => .all (fun (r : Bool) => r = Ca.ok n) fun n => .ite (!n) (.leaf (.ret [.agg [.nils, .nils], .int .i64 8] [.box [.str (Ca.name a), .str (Ca.into a), .int .i64 (Ca.date a), .str (Ca.ratio a), .str (Ca.extra a)], .box [.sl f.length 3 (fxG f), .sl c.length 4 (chG c)], .box [.nils, .nils]])) (.ex (fun (x : List Fx × List Ch) => eqL [AV.agg [AV.sl f.length 3 (fxG f), AV.sl c.length 4 (chG c)]] [AV.agg [AV.sl x.1.length 3 (fxG x.1), AV.sl x.2.length 4 (chG x.2)]] ∧ envP x) fun n => .all (fun (r : Int) => r = errE n.1 n.2) fun n => .ite (!decide (n = 0)) (.leaf (.ret [.agg [.nils, .nils], .int .i64 n] [.box [.str (Ca.name a), .str (Ca.into a), .int .i64 (Ca.date a), .str (Ca.ratio a), .str (Ca.extra a)], .box [.sl f.length 3 (fxG f), .sl c.length 4 (chG c)], .box [.nils, .nils]])) (.side (0 = 0 ∧ 0 ≤ 0 ∧ (0 + c.length) * 48 ≤ 140737488355328) (.leaf (.loop (Prod.fst (lps K8 0)) (Prod.snd (lps K8 0)) [(2, .ptr 0 0), (3, .ptr 1 0), (4, .ptr 2 0), (7, .ptr 4 0), (8, .int .i64 0), (9, .int .i64 0), (11, .undef), (12, .undef), (16, .undef), (52, .undef), (53, .undef), (54, .undef), (55, .undef), (56, .undef), (84, .undef), (85, .undef), (86, .undef), (87, .undef), (88, .undef)] [.box [.str (Ca.name a), .str (Ca.into a), .int .i64 (Ca.date a), .str (Ca.ratio a), .str (Ca.extra a)], .box [.sl f.length 3 (fxG f), .sl c.length 4 (chG c)], .box [.nils, .nils], .arr (0 + c.length) 4 (appG 0 (zf 4 []) (chG c)), .box [.nils, .osl 3 4 0 (0 + c.length)]]))))) (by kernel_rfl) ?_
 simp only [Tree.holds, zc, inR, lo, hi, Int.toNat_natCast]
 have bad : ∀ (e : Int) (h : Heap), a.before f c = (([], []), e) → RetR vA 0 Q [.agg [.nils, .nils], .int .i64 e] h := fun e h hr => by
  rw [hr] at hq
  exact RetR.out0 hq (fun h => by cases h) (by simp [resV, exp2, exp1, exp0, ren0, eqA2, eqL1, envA, fxS, chS])
 refine ⟨a, ⟨by simp [Ca.av], ha⟩, ⟨_, rfl⟩, ?_⟩
 rintro _ rfl
 by_cases hok : ¬ a.ok = true
 ·refine ⟨fun _ => bad _ _ ?_, fun h => by rw [Bool.eq_false_iff.2 hok] at h; simp at h⟩
  unfold Ca.before; rw [if_pos (by simpa using hok)]
 replace hok : a.ok = true := Classical.not_not.1 hok
 rw [hok]
 refine ⟨fun h => by simp at h, fun _ => ⟨(f, c), ⟨by simp [za], he⟩, ⟨_, rfl⟩, ?_⟩⟩
 rintro _ rfl
 refine ⟨fun h => ?_, fun h => ?_⟩
 ·have h : errE f c ≠ 0 := by simpa using h
  refine bad _ _ ?_
  unfold Ca.before; rw [if_neg (by simp [hok]), if_pos h]
 have hE : errE f c = 0 := by simpa using h
 clear h
 have hcl := (j3.1 hE).2.2.2.2
 refine ⟨⟨trivial, Nat.le_refl _, by have := j3.1 hE; omega⟩, fun _ => ?_⟩
 refine zb.zet 4 0 3 (fxG []) rfl rfl (by kernel_rfl) ?_
 refine zb.loop (ι := {i : Nat // i ≤ f.length}) (fun i => SR1 (a.kept (f.take i.1)).length i.1) (fun i => HR1 a f c (a.kept (f.take i.1))) (fun i => f.length - i.1) ⟨0, Nat.zero_le _⟩ 0 ?_ ?_ (by kernel_rfl)
 ·exact ⟨by simp [SR1, fxS, za, Ca.kept], by simp [HR1, fxS, chS, za, Ca.kept, UY], by kernel_rfl, Nat.zero_le _⟩
 ·rintro ⟨i, hil⟩
  obtain ⟨k, hk⟩ : ∃ k, a.kept (f.take i) = k := ⟨_, rfl⟩
  have hkl : k.length ≤ f.length := by rw [← hk]; exact Ca.Zw f i
  simp only [hk]
  refine zb.run hmix uW [2, 3, 4, 7, 8, 9, 11, 12, 16, 52, 53, 54, 55, 56, 84, 85, 86, 87, 88] 400 (T := .ite (decide ((↑i : Int) < f.length)) (.side ((0 : Int) ≤ i ∧ (↑i : Int) < f.length) (.ite (bif decide (Fx.name (List.getD f (Int.toNat (↑i : Int)) Fx.nil) = Ca.name a) then decide (Ca.date a ≤ Fx.date (List.getD f (Int.toNat (↑i : Int)) Fx.nil)) else false) (.side (inR .i64 ((↑i : Int) + (1 : Int))) (.leaf (.back 0 [(2, .ptr 0 0), (3, .ptr 1 0), (4, .ptr 2 0), (7, .ptr 4 0), (8, .int .i64 k.length), (9, .int .i64 ((↑i : Int) + (1 : Int))), (11, .undef), (12, .undef), (16, .undef), (52, .undef), (53, .undef), (54, .undef), (55, .undef), (56, .undef), (84, .undef), (85, .undef), (86, .undef), (87, .undef), (88, .undef)] [.box [.str (Ca.name a), .str (Ca.into a), .int .i64 (Ca.date a), .str (Ca.ratio a), .str (Ca.extra a)], .box [.sl f.length 3 (fxG f), .sl c.length 4 (chG c)], .box [.nils, .nils], .arr c.length 4 (chG c), .box [.osl 5 3 0 k.length, .osl 3 4 0 c.length], .arr k.length 3 (fxG k), .box [.str (Fx.name (List.getD f (Int.toNat (↑i : Int)) Fx.nil)), .int .i64 (Fx.date (List.getD f (Int.toNat (↑i : Int)) Fx.nil)), .str (Fx.value (List.getD f (Int.toNat (↑i : Int)) Fx.nil))]]))) (.side (0 = 0 ∧ k.length ≤ k.length ∧ (k.length + 1) * 40 ≤ 140737488355328) (.side (inR .i64 ((↑k.length : Int) + (1 : Int))) (.side (inR .i64 ((↑i : Int) + (1 : Int))) (.leaf (.back 0 [(2, .ptr 0 0), (3, .ptr 1 0), (4, .ptr 2 0), (7, .ptr 4 0), (8, .int .i64 ((↑k.length : Int) + (1 : Int))), (9, .int .i64 ((↑i : Int) + (1 : Int))), (11, .undef), (12, .undef), (16, .undef), (52, .undef), (53, .undef), (54, .undef), (55, .undef), (56, .undef), (84, .undef), (85, .undef), (86, .undef), (87, .undef), (88, .undef)] [.box [.str (Ca.name a), .str (Ca.into a), .int .i64 (Ca.date a), .str (Ca.ratio a), .str (Ca.extra a)], .box [.sl f.length 3 (fxG f), .sl c.length 4 (chG c)], .box [.nils, .nils], .arr c.length 4 (chG c), .box [.osl 5 3 0 (k.length + 1), .osl 3 4 0 c.length], .arr (k.length + 1) 3 (appG k.length (fxG k) (zg (zf 3 [.str (Fx.name (List.getD f (Int.toNat (↑i : Int)) Fx.nil)), .int .i64 (Fx.date (List.getD f (Int.toNat (↑i : Int)) Fx.nil)), .str (Fx.value (List.getD f (Int.toNat (↑i : Int)) Fx.nil))]) 0)), .box [.str (Fx.name (List.getD f (Int.toNat (↑i : Int)) Fx.nil)), .int .i64 (Fx.date (List.getD f (Int.toNat (↑i : Int)) Fx.nil)), .str (Fx.value (List.getD f (Int.toNat (↑i : Int)) Fx.nil))], .arr 1 3 (zf 3 [.str (Fx.name (List.getD f (Int.toNat (↑i : Int)) Fx.nil)), .int .i64 (Fx.date (List.getD f (Int.toNat (↑i : Int)) Fx.nil)), .str (Fx.value (List.getD f (Int.toNat (↑i : Int)) Fx.nil))])]))))))) (.leaf (.loop (Prod.fst (lps (inside K8 0) 0)) (Prod.snd (lps (inside K8 0) 0)) [(2, .ptr 0 0), (3, .ptr 1 0), (4, .ptr 2 0), (7, .ptr 4 0), (8, .int .i64 k.length), (9, .int .i64 i), (11, .nils), (12, .int .i64 0), (16, .undef), (52, .undef), (53, .undef), (54, .undef), (55, .undef), (56, .undef), (84, .undef), (85, .undef), (86, .undef), (87, .undef), (88, .undef)] [.box [.str (Ca.name a), .str (Ca.into a), .int .i64 (Ca.date a), .str (Ca.ratio a), .str (Ca.extra a)], .box [.sl f.length 3 (fxG f), .sl c.length 4 (chG c)], .box [.nils, .nils], .arr c.length 4 (chG c), .box [.osl 5 3 0 k.length, .osl 3 4 0 c.length], .arr k.length 3 (fxG k)]))) (by kernel_rfl) ?_
  simp only [Tree.holds, zc, inR, lo, hi, Int.toNat_natCast]
  refine ⟨fun h => ?_, fun h => ?_⟩
  ·have hlt : i < f.length := by have := of_decide_eq_true h; omega
   obtain ⟨x, hx⟩ : ∃ x, f.getD i Fx.nil = x := ⟨_, rfl⟩
   have K := Ca.Qz (a := a) hlt
   rw [hx, hk] at K
   have hkeep : (bif decide (x.name = a.name) then decide (a.date ≤ x.date) else false) = !a.keep x := by
    unfold Ca.keep
    by_cases h1 : x.name = a.name <;> by_cases h2 : a.date ≤ x.date <;> simp [h1, h2] <;> omega
   simp only [hx, hkeep]
   refine ⟨by omega, fun _ => ⟨fun hK => ⟨by omega, fun _ => ?_⟩, fun hK => ?_⟩⟩
   ·rw [if_neg (by simpa using hK)] at K
    rw [if_pos trivial]
    exact ⟨⟨i + 1, hlt⟩, by show f.length - (i + 1) < f.length - i; omega, by simp [SR1, fxS, za, K], by simp [HR1, fxS, chS, K, za], by kernel_rfl, Nat.zero_le _⟩
   ·rw [if_pos (by simpa using hK)] at K
    refine ⟨⟨trivial, Nat.le_refl _, by omega⟩, fun _ => ⟨by omega, fun _ => ⟨by omega, fun _ => ?_⟩⟩⟩
    rw [if_pos trivial]
    refine ⟨⟨i + 1, hlt⟩, by show f.length - (i + 1) < f.length - i; omega, by simp [SR1, fxS, za, K], ?_, by kernel_rfl, Nat.zero_le _⟩
    have p2 := jy (l := k) (x := x) (za _ _ (fxG k))
    simp [HR1, fxS, chS, K, za, p2]
  ·have hge : i = f.length := by have := of_decide_eq_false h; omega
   rw [hge, List.take_length] at hk
   have hkk : (a.kept f).length = k.length := by rw [hk]
   refine zb.bear 11 3 (fxG []) rfl (by decide) (by kernel_rfl) ?_
   exact zfn a f c k 0 hk ha hfl hok hE hq _ _ ⟨by simp [SR2, kq], by simp [HR2, fxS, chS, za], by kernel_rfl, Nat.zero_le _⟩
end Go.Proofs.Tryz
end

/- What is known, of bounded size. -/
section
open Go Go.Sx Go.Proofs Go.Nov
namespace Go.Proofs.Tryz
def zgs (p : List Fx × List Ch) : Prop := p.1.length < 2 ^ 60 ∧ p.2.length < 2 ^ 60 ∧ (∀ j, j < p.1.length → X8 (p.1.getD j Fx.nil)) ∧ ∀ j, j < p.2.length → Wv (p.2.getD j Ch.nil)
theorem UC {p : List Fx × List Ch} (h : fitP p) : envP p := by
 obtain ⟨h1, h2, h3, h4⟩ := h
 refine ⟨by omega, by omega, fun j hj => ?_, fun j hj => ?_⟩
 ·obtain ⟨a, b⟩ := h3 j hj; exact ⟨by omega, by omega⟩
 ·obtain ⟨a, b⟩ := h4 j hj; exact ⟨by omega, by omega⟩
end Go.Proofs.Tryz
end

/- Corporate actions: the law of the worlds before. -/
section
set_option maxRecDepth 100000
open Go Go.Sx Go.Proofs Go.Nov
namespace Go.Proofs.Tryz
attribute [local simp] eqKV eqA eqA0 eqH eqB eqL eqL0
noncomputable def K3 : List Go.Sx.Item := [.code (Tryz.f3.body.getD .skip)]
noncomputable def GLb : Nat → Option Ctr := fun f => if f = 4 then some (zdz) else if f = 5 then some (KQ) else if f = 6 then some (ze4) else if f = 7 then some (ZW) else if f = 8 then some (vA) else if f = 9 then some (V8) else none
theorem Ka : ∀ g c, GLb g = some c → zd Tryz.prog g c := okIf zdi (okIf Uz (okIf zdj (okIf Xc (okIf KY (okIf zbh (zp))))))
def VO : Ctr := ctrP true (fun p : Ca × List Fx × List Ch => [p.1.av, envA p.2.1 p.2.2]) (fun p => True ∧ p.2.1.length < 2 ^ 60 ∧ p.2.2.length < 2 ^ 60 ∧ (∀ j, j < p.2.1.length → X8 (p.2.1.getD j Fx.nil)) ∧ ∀ j, j < p.2.2.length → Wv (p.2.2.getD j Ch.nil)) (fun _ r => r = true) (fun _ (r : Bool) => (.bool r, []))
def SWo (i : Nat) : KV := [(3, .ptr 1 0), (5, .ptr 4 0), (6, .ptr 7 0), (10, .bool true), (11, .int .i64 (i : Int)), (12, .undef), (67, .undef), (68, .undef), (69, .undef)]
def SWp (i : Nat) : KV := [(3, .ptr 1 0), (5, .ptr 4 0), (6, .ptr 7 0), (10, .bool true), (11, .undef), (12, .int .i64 (i : Int)), (67, .undef), (68, .undef), (69, .undef)]
def HWo (a : Ca) (f : List Fx) (c : List Ch) (n m : Nat) (g h : Nat → Nat → AV) : Heap := [.box [.str a.name, .str a.into, .int .i64 a.date, .str a.ratio, .str a.extra], .box [fxS f, chS c], .arr f.length 3 (fxG f), .arr c.length 4 (chG c), .box [.osl 2 3 0 f.length, .osl 3 4 0 c.length], .arr n 3 g, .arr m 4 h, .box [.osl 5 3 0 n, .osl 6 4 0 m]]
theorem VP {a : Ca} {f : List Fx} {c : List Ch} : (a.before f c).1.1.length ≤ 1000 ∧ (a.before f c).1.2.length ≤ 1000 := by
 unfold Ca.before
 split
 ·simp
 ·split
  ·simp
  ·rename_i h0
   have h := j3.1 (Classical.not_not.1 h0)
   split
   ·simp
   ·split
    ·simp
    ·have := Ca.QR (a := a) (l := a.kept f)
     simp only [Ca.join, List.length_append, List.length_take, List.length_drop]
     omega
theorem zfa {O : Nat → Prop} {w0 : World} {Q : AV × Heap → Prop} {Hs : Nat → KV → Heap → Prop} (a : Ca) (f : List Fx) (c : List Ch) (n m : Nat) (g h : Nat → Nat → AV) (hm : m < 2 ^ 40) (hfl : f.length < 2 ^ 40) (hcl : c.length < 2 ^ 40) (hq : Q (.bool true, [])) (kv : KV) (h' : Heap) (hle : LeK 0 Tryz.f3.ntmps kv h' (SWp 0) (HWo a f c n m g h)) :
  zb Tryz.prog Tryz.f3 O 0 w0 [] Hs (RetR VO 0 Q) (.code (.loop (lps (inside K3 0) 0).1) :: (lps (inside K3 0) 0).2) (mk Tryz.f3.ntmps kv h') := by
 refine zb.loop (ι := {p : Nat × (Nat → Nat → AV) // p.1 ≤ m}) (fun p => SWp p.1.1) (fun p => HWo a f c n m g p.1.2) (fun p => m - p.1.1) ⟨(0, h), Nat.zero_le _⟩ 0 hle ?_ (by kernel_rfl)
 rintro ⟨⟨i, h⟩, hil⟩
 simp only at hil
 refine zb.run hmix Ka [3, 5, 6, 10, 11, 12, 67, 68, 69] 400 (T := .ite (decide ((↑i : Int) < m)) (.side ((0 : Int) ≤ i ∧ (↑i : Int) < m) (.side (inR .i64 ((↑i : Int) + (1 : Int))) (.leaf (.back 0 [(3, .ptr 1 0), (5, .ptr 4 0), (6, .ptr 7 0), (10, .bool true), (11, .undef), (12, .int .i64 ((↑i : Int) + (1 : Int))), (67, .undef), (68, .undef), (69, .undef)] [.box [.str (Ca.name a), .str (Ca.into a), .int .i64 (Ca.date a), .str (Ca.ratio a), .str (Ca.extra a)], .box [.sl f.length 3 (fxG f), .sl c.length 4 (chG c)], .arr f.length 3 (fxG f), .arr c.length 4 (chG c), .box [.osl 2 3 0 f.length, .osl 3 4 0 c.length], .arr n 3 g, .arr m 4 (updG h (0 + Int.toNat (↑i : Int)) 2 [.int .i64 (-7 : Int)]), .box [.osl 5 3 0 n, .osl 6 4 0 m]])))) (.ex (fun (x : (List Fx × List Ch) × List Fx × List Ch) => true = true → eqL [AV.agg [AV.sl f.length 3 (fxG f), AV.sl c.length 4 (chG c)], AV.agg [AV.sl f.length 3 (zg (fxG f) 0), AV.sl c.length 4 (zg (chG c) 0)]] [AV.agg [AV.sl x.1.1.length 3 (fxG x.1.1), AV.sl x.1.2.length 4 (chG x.1.2)], AV.agg [AV.sl x.2.1.length 3 (fxG x.2.1), AV.sl x.2.2.length 4 (chG x.2.2)]] ∧ x.1.1.length < 1099511627776 ∧ x.1.2.length < 1099511627776) fun n_1 => .all (fun (x : Bool) => true = true → (x = true ↔ n_1.1 = n_1.2)) fun n_2 => .leaf (.ret [.bool (bif true then n_2 else false)] [.box [.str (Ca.name a), .str (Ca.into a), .int .i64 (Ca.date a), .str (Ca.ratio a), .str (Ca.extra a)], .box [.sl f.length 3 (fxG f), .sl c.length 4 (chG c)], .arr f.length 3 (fxG f), .arr c.length 4 (chG c), .box [.osl 2 3 0 f.length, .osl 3 4 0 c.length], .arr n 3 g, .arr m 4 h, .box [.osl 5 3 0 n, .osl 6 4 0 m]]))) (by kernel_rfl) ?_
 simp only [Tree.holds, zc, inR, lo, hi, Int.toNat_natCast]
 refine ⟨fun hlt => ?_, fun hge => ?_⟩
 ·have hlt : i < m := by have := of_decide_eq_true hlt; omega
  refine ⟨by omega, fun _ => ⟨by omega, fun _ => ?_⟩⟩
  rw [if_pos trivial]
  exact ⟨⟨(i + 1, updG h (0 + i) 2 [.int .i64 (-7)]), hlt⟩, by show m - (i + 1) < m - i; omega, by simp [SWp], by simp [HWo, fxS, chS, eqB, za], by kernel_rfl, Nat.zero_le _⟩
 ·refine ⟨((f, c), (f, c)), fun _ => ⟨by simp [jH, za], hfl, hcl⟩, ⟨true, fun _ => by simp⟩, fun b hb => ?_⟩
  have hb : b = true := (hb trivial).2 rfl
  subst hb
  exact RetR.scal hq rfl (by simp [resV])
theorem zez {O : Nat → Prop} {w0 : World} {Q : AV × Heap → Prop} {Hs : Nat → KV → Heap → Prop} (a : Ca) (f : List Fx) (c : List Ch) (n m : Nat) (g h : Nat → Nat → AV) (hn : n < 2 ^ 40) (hm : m < 2 ^ 40) (hfl : f.length < 2 ^ 40) (hcl : c.length < 2 ^ 40) (hq : Q (.bool true, [])) (kv : KV) (h' : Heap) (hle : LeK 0 Tryz.f3.ntmps kv h' (SWo 0) (HWo a f c n m g h)) :
  zb Tryz.prog Tryz.f3 O 0 w0 [] Hs (RetR VO 0 Q) (.code (.loop (lps K3 0).1) :: (lps K3 0).2) (mk Tryz.f3.ntmps kv h') := by
 refine zb.loop (ι := {p : Nat × (Nat → Nat → AV) // p.1 ≤ n}) (fun p => SWo p.1.1) (fun p => HWo a f c n m p.1.2 h) (fun p => n - p.1.1) ⟨(0, g), Nat.zero_le _⟩ 0 hle ?_ (by kernel_rfl)
 rintro ⟨⟨i, g⟩, hil⟩
 simp only at hil
 refine zb.run hmix Ka [3, 5, 6, 10, 11, 12, 67, 68, 69] 400 (T := .ite (decide ((↑i : Int) < n)) (.side ((0 : Int) ≤ i ∧ (↑i : Int) < n) (.side (inR .i64 ((↑i : Int) + (1 : Int))) (.leaf (.back 0 [(3, .ptr 1 0), (5, .ptr 4 0), (6, .ptr 7 0), (10, .bool true), (11, .int .i64 ((↑i : Int) + (1 : Int))), (12, .undef), (67, .undef), (68, .undef), (69, .undef)] [.box [.str (Ca.name a), .str (Ca.into a), .int .i64 (Ca.date a), .str (Ca.ratio a), .str (Ca.extra a)], .box [.sl f.length 3 (fxG f), .sl c.length 4 (chG c)], .arr f.length 3 (fxG f), .arr c.length 4 (chG c), .box [.osl 2 3 0 f.length, .osl 3 4 0 c.length], .arr n 3 (updG g (0 + Int.toNat (↑i : Int)) 1 [.int .i64 (-7 : Int)]), .arr m 4 h, .box [.osl 5 3 0 n, .osl 6 4 0 m]])))) (.leaf (.loop (Prod.fst (lps (inside K3 0) 0)) (Prod.snd (lps (inside K3 0) 0)) [(3, .ptr 1 0), (5, .ptr 4 0), (6, .ptr 7 0), (10, .bool true), (11, .int .i64 i), (12, .int .i64 0), (67, .undef), (68, .undef), (69, .undef)] [.box [.str (Ca.name a), .str (Ca.into a), .int .i64 (Ca.date a), .str (Ca.ratio a), .str (Ca.extra a)], .box [.sl f.length 3 (fxG f), .sl c.length 4 (chG c)], .arr f.length 3 (fxG f), .arr c.length 4 (chG c), .box [.osl 2 3 0 f.length, .osl 3 4 0 c.length], .arr n 3 g, .arr m 4 h, .box [.osl 5 3 0 n, .osl 6 4 0 m]]))) (by kernel_rfl) ?_
 simp only [Tree.holds, zc, inR, lo, hi, Int.toNat_natCast]
 refine ⟨fun hlt => ?_, fun hge => ?_⟩
 ·have hlt : i < n := by have := of_decide_eq_true hlt; omega
  refine ⟨by omega, fun _ => ⟨by omega, fun _ => ?_⟩⟩
  rw [if_pos trivial]
  exact ⟨⟨(i + 1, updG g (0 + i) 1 [.int .i64 (-7)]), hlt⟩, by show n - (i + 1) < n - i; omega, by simp [SWo], by simp [HWo, fxS, chS, eqB, za], by kernel_rfl, Nat.zero_le _⟩
 ·exact zfa a f c n m g h hm hfl hcl hq _ _ ⟨by simp [SWp], by simp [HWo, fxS, chS, eqB, za], by kernel_rfl, Nat.zero_le _⟩
theorem za7 : zd Tryz.prog 3 VO := by
 refine ze (fn := Tryz.f3) (c := Tryz.f3.body.getD .skip) rfl rfl rfl fun p hp O w0 Q hq => ?_
 obtain ⟨a, f, c⟩ := p
 replace hq := hq _ rfl
 simp only at hq hp
 obtain ⟨_, hp⟩ := hp
 refine zb.run hmix Ka [3, 5, 6, 10, 11, 12, 67, 68, 69] 400 (T := .ex (fun (x : Ca) => eqL [AV.agg [AV.str (Ca.name a), AV.str (Ca.into a), AV.int .i64 (Ca.date a), AV.str (Ca.ratio a), AV.str (Ca.extra a)]] [AV.agg [AV.str (Ca.name x), AV.str (Ca.into x), AV.int .i64 (Ca.date x), AV.str (Ca.ratio x), AV.str (Ca.extra x)]] ∧ True) fun n => .all (fun (r : Bool) => r = false → List.length (Ca.name n) ≤ 1000 ∧ List.length (Ca.into n) ≤ 1000 ∧ List.length (Ca.ratio n) ≤ 1000 ∧ List.length (Ca.extra n) ≤ 1000) fun n => .ex (fun (x : List Fx × List Ch) => n = false → eqL [AV.agg [AV.sl f.length 3 (fxG f), AV.sl c.length 4 (chG c)]] [AV.agg [AV.sl x.1.length 3 (fxG x.1), AV.sl x.2.length 4 (chG x.2)]] ∧ x.1.length < 1152921504606846976 ∧ x.2.length < 1152921504606846976 ∧ (∀ (j : Nat), j < x.1.length → X8 (List.getD x.1 j Fx.nil)) ∧ ∀ (j : Nat), j < x.2.length → Wv (List.getD x.2 j Ch.nil)) fun n_1 => .all (fun (x : Bool) => n = false → x = false → fitP n_1) fun n_2 => .ite (bif n then true else n_2) (.leaf (.ret [.bool true] [.box [.str (Ca.name a), .str (Ca.into a), .int .i64 (Ca.date a), .str (Ca.ratio a), .str (Ca.extra a)], .box [.sl f.length 3 (fxG f), .sl c.length 4 (chG c)]])) (.ex (fun (x : List Fx × List Ch) => eqL [AV.agg [AV.sl f.length 3 (fxG f), AV.sl c.length 4 (chG c)]] [AV.agg [AV.sl x.1.length 3 (fxG x.1), AV.sl x.2.length 4 (chG x.2)]] ∧ x.1.length < 1099511627776 ∧ x.2.length < 1099511627776) fun n => .all (fun (x : Unit) => True) fun n_3 => .ex (fun (x : Ca × List Fx × List Ch) => eqL [AV.agg [AV.str (Ca.name a), AV.str (Ca.into a), AV.int .i64 (Ca.date a), AV.str (Ca.ratio a), AV.str (Ca.extra a)], AV.agg [AV.sl f.length 3 (fxG f), AV.sl c.length 4 (chG c)]] [AV.agg [AV.str (Ca.name x.1), AV.str (Ca.into x.1), AV.int .i64 (Ca.date x.1), AV.str (Ca.ratio x.1), AV.str (Ca.extra x.1)], AV.agg [AV.sl x.2.1.length 3 (fxG x.2.1), AV.sl x.2.2.length 4 (chG x.2.2)]] ∧ j9 x.1 ∧ envP x.2 ∧ x.2.1.length ≤ 1000000) fun n_4 => .all (fun (r : (List Fx × List Ch) × Int) => r = Ca.before n_4.1 n_4.2.1 n_4.2.2) fun n_5 => .ex (fun (x : Ca × List Fx × List Ch) => eqL [AV.agg [AV.str (Ca.name a), AV.str (Ca.into a), AV.int .i64 (Ca.date a), AV.str (Ca.ratio a), AV.str (Ca.extra a)], AV.agg [AV.sl f.length 3 (fxG f), AV.sl c.length 4 (chG c)]] [AV.agg [AV.str (Ca.name x.1), AV.str (Ca.into x.1), AV.int .i64 (Ca.date x.1), AV.str (Ca.ratio x.1), AV.str (Ca.extra x.1)], AV.agg [AV.sl x.2.1.length 3 (fxG x.2.1), AV.sl x.2.2.length 4 (chG x.2.2)]] ∧ j9 x.1 ∧ envP x.2 ∧ x.2.1.length ≤ 1000000) fun n_6 => .all (fun (r : (List Fx × List Ch) × Int) => r = Ca.before n_6.1 n_6.2.1 n_6.2.2) fun n_7 => .ex (fun (x : (List Fx × List Ch) × List Fx × List Ch) => eqL [AV.agg [AV.sl n_5.1.1.length 3 (zg (fxG n_5.1.1) 0), AV.sl n_5.1.2.length 4 (zg (chG n_5.1.2) 0)], AV.agg [AV.sl n_7.1.1.length 3 (fxG n_7.1.1), AV.sl n_7.1.2.length 4 (chG n_7.1.2)]] [AV.agg [AV.sl x.1.1.length 3 (fxG x.1.1), AV.sl x.1.2.length 4 (chG x.1.2)], AV.agg [AV.sl x.2.1.length 3 (fxG x.2.1), AV.sl x.2.2.length 4 (chG x.2.2)]] ∧ x.1.1.length < 1099511627776 ∧ x.1.2.length < 1099511627776) fun n_8 => .all (fun (r : Bool) => r = true ↔ n_8.1 = n_8.2) fun n_9 => .leaf (.loop (Prod.fst (lps K3 0)) (Prod.snd (lps K3 0)) [(3, .ptr 1 0), (5, .ptr 4 0), (6, .ptr 7 0), (10, .bool (bif n_9 then decide (n_5.2 = n_7.2) else false)), (11, .int .i64 0), (12, .undef), (67, .undef), (68, .undef), (69, .undef)] [.box [.str (Ca.name a), .str (Ca.into a), .int .i64 (Ca.date a), .str (Ca.ratio a), .str (Ca.extra a)], .box [.sl f.length 3 (fxG f), .sl c.length 4 (chG c)], .arr n.1.length 3 (fxG n.1), .arr n.2.length 4 (chG n.2), .box [.osl 2 3 0 n.1.length, .osl 3 4 0 n.2.length], .arr n_5.1.1.length 3 (fxG n_5.1.1), .arr n_5.1.2.length 4 (chG n_5.1.2), .box [.osl 5 3 0 n_5.1.1.length, .osl 6 4 0 n_5.1.2.length], .box [.sl n_7.1.1.length 3 (fxG n_7.1.1), .sl n_7.1.2.length 4 (chG n_7.1.2)]]))) (by kernel_rfl) ?_
 simp only [Tree.holds, zc, inR, lo, hi, Int.toNat_natCast]
 refine ⟨a, ⟨by simp [Ca.av], trivial⟩, ⟨true, fun h => by cases h⟩, ?_⟩
 intro b1 h1
 refine ⟨(f, c), fun _ => ⟨by simp [za], hp⟩, ⟨true, fun _ h => by cases h⟩, ?_⟩
 intro b2 h2
 refine ⟨fun _ => RetR.scal hq rfl (by simp [resV]), fun h => ?_⟩
 have hbb : b1 = false ∧ b2 = false := by cases b1 <;> cases b2 <;> simp at h ⊢
 obtain ⟨rfl, rfl⟩ := hbb
 obtain ⟨s1, s2, s3, s4⟩ := h1 rfl
 have hfit := h2 rfl rfl
 have hE : envP (f, c) := UC hfit
 have hfl : f.length ≤ 1000000 := by obtain ⟨q1, _⟩ := hfit; simp only at q1; omega
 have hcl : c.length < 2 ^ 40 := hE.2.1
 have ha : j9 a := ⟨by omega, by omega, by omega, by omega⟩
 obtain ⟨b3, b4⟩ := VP (a := a) (f := f) (c := c)
 refine ⟨(f, c), ⟨by simp [za], by show f.length < _; omega, hcl⟩, ⟨(), trivial⟩, fun _ _ => ?_⟩
 refine ⟨(a, f, c), ⟨by simp [za, Ca.av], ha, hE, hfl⟩, ⟨_, rfl⟩, ?_⟩
 rintro _ rfl
 refine ⟨(a, f, c), ⟨by simp [za, Ca.av], ha, hE, hfl⟩, ⟨_, rfl⟩, ?_⟩
 rintro _ rfl
 simp only
 refine ⟨((a.before f c).1, (a.before f c).1), ⟨by simp [jH, za], by simp only; omega, by simp only; omega⟩, ⟨true, by simp⟩, fun b hb => ?_⟩
 have hb : b = true := hb.2 rfl
 subst hb
 exact zez a f c (a.before f c).1.1.length (a.before f c).1.2.length (fxG (a.before f c).1.1) (chG (a.before f c).1.2) (by omega) (by omega) (by omega) hcl hq _ _ ⟨by simp [SWo], by simp [HWo, fxS, chS, eqB, za], by kernel_rfl, Nat.zero_le _⟩
end Go.Proofs.Tryz
end

/- From a reading of the arguments to their representation; from a contract to a call. -/
section
namespace Go.Sx
variable [Stat]
open Go.RowKit (Below)
def E0 : Nat → Prop := Own (fun _ => False) []
theorem zgv (b : Nat) : ¬ E0 b := by
 rintro (h | ⟨e, he, _⟩)
 ·exact h
 ·simp at he
def Tw (P : Program) (W : World) (t : TypeId) (cs : List Value) : Prop := ∃ (H : Type) (enc : TypeId × Value → H) (base fuel : Nat) (d : DataW H) (ps : List MemPlace), DataW.trod enc P W base (fun _ => true) true fuel t cs = some (d, ps) ∧ ∀ n ∈ d.weights P t, n ≤ reachBytes
section
variable {P : Program} {W : World} {t e : TypeId} {cs : List Value}
theorem kG (ht : P.underlying t = some .string) (h : Tw P W t cs) : ∃ s : List UInt8, cs = [.string ⟨s.toArray⟩] ∧ s.length ≤ reachBytes := by
 obtain ⟨H, enc, base, fuel, d, ps, h, hw⟩ := h
 obtain ⟨s, rfl, hx, _⟩ := DataW.trod_string ht h
 cases hx
 exact ⟨s.data.toList, by simp, hw _ (by simp [DataW.weights])⟩
theorem Kg {k : IntKind} (ht : P.underlying t = some (.int k)) (h : Tw P W t cs) : ∃ n, cs = [.int k n] ∧ (Lit.int k n).wf = true := by
 obtain ⟨H, enc, base, fuel, d, ps, h, hw⟩ := h
 obtain ⟨n, rfl, hx, hwf⟩ := DataW.trod_int ht h
 exact ⟨n, rfl, hwf⟩
theorem zda (ht : P.underlying t = some .bool) (h : Tw P W t cs) : ∃ b, cs = [.bool b] := by
 obtain ⟨H, enc, base, fuel, d, ps, h, hw⟩ := h
 obtain ⟨b, rfl, hx⟩ := DataW.trod_bool ht h
 exact ⟨b, rfl⟩
theorem xn {fs : Array Field} (ht : P.underlying t = some (.struct fs)) (h : Tw P W t cs) : cs.length = P.cellsOf t ∧ ∀ (i : Nat) (f : Field), fs[i]? = some f → Tw P W f.type ((cs.drop f.offset).take (P.cellsOf f.type)) := by
 obtain ⟨H, enc, base, fuel, d, ps, h, hw⟩ := h
 obtain ⟨xs, n, _, hx, hl, hlen, hf⟩ := DataW.trod_struct ht h
 cases hx
 refine ⟨hl, fun i f hfi => ?_⟩
 have hi := hf i f hfi
 have hlt : i < xs.length := by
  rw [hlen]; exact (Array.getElem?_eq_some_iff.1 hfi).1
 rw [List.getElem?_eq_getElem hlt] at hi
 refine ⟨H, enc, base, n, xs[i].1, xs[i].2, hi, fun m hm => hw m ?_⟩
 simp only [DataW.weights, ht]
 exact DataW.weights_mem_each (j := i) (t := f.type) (d := xs[i].1) (by simp [hfi]) (by simp [hlt]) m hm
theorem k5 {H : Type} {d : DataW H} : ∀ {l : List (DataW H)}, d ∈ l → ∀ n ∈ d.weights P e, n ∈ DataW.weightsAll P e l
 | x :: l, hd, n, hn => by
  simp only [DataW.weightsAll, List.mem_append]
  rcases List.mem_cons.1 hd with rfl | hd
  ·exact .inl hn
  ·exact .inr (k5 hd n hn)
theorem UO (ht : P.underlying t = some (.slice e)) (h : Tw P W t cs) : cs = [.slice none 0 0] ∨ ∃ (a : Addr) (len cap : Nat), cs = [.slice (some a) len cap] ∧ len ≤ cap ∧ cap * P.bytesOf e ≤ reachBytes ∧
  ∀ i, i < len → ∃ cs', cs'.length = P.cellsOf e ∧ (∀ o, o < P.cellsOf e → W.cell? ((a.add (i * P.cellsOf e)).add o) = cs'[o]?) ∧ Tw P W e cs' := by
 obtain ⟨H, enc, base, fuel, d, ps, h, hw⟩ := h
 rcases DataW.trod_slice ht h with ⟨rfl, _⟩ | ⟨a, len, cap, elems, rest, n, _, rfl, hx, hb, hl, hm, hlen, hel, hsp, _⟩
 ·exact .inl rfl
 ·right
  cases hx
  obtain ⟨hrl, _⟩ := hsp rfl
  simp only [DataW.weights, ht] at hw
  refine ⟨a, len, cap, rfl, hl, ?_, fun i hi => ?_⟩
  ·have := hw _ (List.mem_cons_self)
   simp only [List.length_map, hlen, hrl] at this
   rwa [show len + (cap - len) = cap by omega] at this
  ·have h1 := hel i hi
   have hlt : i < elems.length := by rw [hlen]; exact hi
   rw [List.getElem?_eq_getElem hlt, Option.bind_eq_some_iff] at h1
   obtain ⟨cs', h2, h3⟩ := h1
   obtain ⟨_, h4, h5⟩ := World.cells?_some h2
   refine ⟨cs', h4, h5, H, enc, base, n, elems[i].1, elems[i].2, h3, fun m hm2 => hw m ?_⟩
   simp only [List.mem_cons, List.mem_append]
   exact .inr (.inl (k5 (d := elems[i].1) (List.mem_map.2 ⟨elems[i], List.getElem_mem hlt, rfl⟩) m hm2))
theorem Q1 {α : Type} (z : α) (cell : α → Nat → AV) (good : α → Prop) {sz : Nat} (ht : P.underlying t = some (.slice e)) (hsz : P.cellsOf e = sz) (hpos : 0 < sz)
  (hel : ∀ cs', Tw P W e cs' → ∃ x : α, good x ∧ ∀ o, o < sz → ∃ c, cs'[o]? = some c ∧ c.oneCell' = true ∧ Rep E0 W (cell x o) [] c) (h : Tw P W t cs) :
  ∃ (l : List α) (v : Value), cs = [v] ∧ (∀ x ∈ l, good x) ∧ l.length * P.bytesOf e ≤ reachBytes ∧ v.oneCell' = true ∧ Rep E0 W (.sl l.length sz fun j => cell (l.getD j z)) [] v := by
 rcases UO ht h with rfl | ⟨a, len, cap, rfl, hl, hw, hx⟩
 ·refine ⟨[], _, rfl, by simp, by simp, rfl, ?_⟩
  simp only [Rep]
  exact ⟨none, 0, rfl, Nat.le_refl _, .inl rfl⟩
 ·rw [hsz] at hx
  have hx2 : ∀ i, ∃ x : α, i < len → good x ∧ ∀ o, o < sz → ∃ c, W.cell? ((a.add (i * sz)).add o) = some c ∧ c.oneCell' = true ∧ Rep E0 W (cell x o) [] c := fun i => by
   by_cases hi : i < len
   ·obtain ⟨cs', h1, h2, h3⟩ := hx i hi
    obtain ⟨x, hg, hc⟩ := hel cs' h3
    exact ⟨x, fun _ => ⟨hg, fun o ho => by
     obtain ⟨c, g1, g2, g3⟩ := hc o ho
     exact ⟨c, by rw [h2 o ho, g1], g2, g3⟩⟩⟩
   ·exact ⟨z, fun h => absurd h hi⟩
  obtain ⟨f, hf⟩ := Classical.axiomOfChoice hx2
  have hgd : ∀ j, j < len → ((List.range len).map f).getD j z = f j := fun j hj => by simp [List.getD, hj]
  refine ⟨(List.range len).map f, _, rfl, fun x hxm => ?_, ?_, rfl, ?_⟩
  ·obtain ⟨i, hi, rfl⟩ := List.mem_map.1 hxm
   exact (hf i (List.mem_range.1 hi)).1
  ·simp only [List.length_map, List.length_range]
   exact Nat.le_trans (Nat.mul_le_mul_right _ hl) hw
  ·simp only [Rep, List.length_map, List.length_range]
   refine ⟨some a, cap, rfl, hl, ?_⟩
   rcases Nat.eq_zero_or_pos len with h0 | h0
   ·exact .inl h0
   ·right
    have hspot : a.spot = none := by
     obtain ⟨c, g1, _⟩ := (hf 0 h0).2 0 hpos
     have := World.cell?_spot g1
     simpa [Addr.add] using this
    refine ⟨a, rfl, hspot, fun j o hj ho => ⟨zgv _, ?_⟩⟩
    obtain ⟨c, g1, g2, g3⟩ := (hf j hj).2 o ho
    refine ⟨c, ?_, g2, by rw [hgd j hj]; exact g3⟩
    rw [← g1]
    obtain ⟨b, off, spot⟩ := a
    simp only at hspot
    subst hspot
    congr 1
    simp only [Addr.add]
    split <;> split <;> simp_all <;> omega
theorem YG {g : Nat} {fn : Func} {c : Code} (hf : P.funcs[g]? = some fn) (hb : fn.body = some c) (hn : (fn.name == "runtime.NumGoroutine") = false) {ctr : Ctr} (hok : zd P g ctr) {args : List AV} {vals : List Value}
  (hspec : (ctr.spec args []).holds fun r => r = (.bool true, [])) (hr : RepL E0 W args [] vals) (hst : vz E0 W) : Calls P g vals.toArray W fun e W' => e = .returned (.bool true) ∧ Below W.heap.size W W' := by
 have hn' : ¬ fn.name = "runtime.NumGoroutine" := by simpa using hn
 have hg : Good (fun _ => False) W [] := ⟨fun b h => h.elim, fun i e ad he => by simp at he, hst⟩
 have hh : HRep (Own (fun _ => False) []) W [] [] := ⟨rfl, fun i j e f a b he => by simp at he, fun i e a he => by simp at he, fun i e b he => by simp at he⟩
 rcases hok args [] _ hspec (fun _ => rfl) (fun _ => False) W [] vals hg hh hr with ⟨_, h⟩ | ⟨v, w', h, _⟩
 ·refine h.mono ?_
  rintro e W' ⟨v, rfl, r, hs, σ', hq, h1, _, _, _, _, hx⟩
  cases hq
  simp only [Rep] at h1
  subst h1
  exact ⟨rfl, hx.os, hx.tape, hx.output, hx.size, fun k hk => hx.keep k hk fun ⟨e, he, _⟩ => by simp at he⟩
 ·simp [callFunc, hf, hn', hb] at h
end
end Go.Sx
end

/- Recursive data as arguments; package-level maps that read as they are laid. -/
section
namespace Go.Sx
variable [Stat]
section
variable {P : Program} {W : World} {t e : TypeId} {cs : List Value}
end
section
open Go.WideElems Go.ChangeMaps
variable {H : Type} {enc : TypeId × Value → H} {P : Program} {W : World} {base : Nat} {sp : Nat → Bool} {held : Bool}
end
end Go.Sx
end

/- What rows hand to laws: arguments as data. -/
section
set_option maxRecDepth 100000
namespace Go.Proofs.YtpmofcdjkhmdaaaGreat
open Go Go.Sx Go.Nov Go.Proofs.Tryz Go.ChangeShapes Go.WideShapes Go.ChangeAt Go.RowKit
theorem vG : Tryz.prog.cellsOf 9 = 1 := by kernel_rfl
theorem ug : Tryz.prog.cellsOf 22 = 1 := by kernel_rfl
theorem yY : Tryz.prog.cellsOf 3 = 1 := by kernel_rfl
theorem Ke : Tryz.prog.cellsOf 4 = 1 := by kernel_rfl
theorem V1 : Tryz.prog.cellsOf 39 = 3 := by kernel_rfl
theorem W6 : Tryz.prog.cellsOf 41 = 4 := by kernel_rfl
theorem zbq : Tryz.prog.cellsOf 25 = 1 := by kernel_rfl
theorem Ur : Tryz.prog.cellsOf 26 = 1 := by kernel_rfl
theorem Y2 : Tryz.prog.cellsOf 28 = 2 := by kernel_rfl
def zaf (x : Fx) : Prop := x.name.length ≤ reachBytes ∧ x.value.length ≤ reachBytes
def zbr (x : Ch) : Prop := x.zL.length ≤ reachBytes ∧ x.name.length ≤ reachBytes
theorem UW {W : World} {cs : List Value} (h : Tw Tryz.prog W 39 cs) : ∃ x : Fx, zaf x ∧ cs = [.string ⟨x.name.toArray⟩, .int .i64 x.date, .string ⟨x.value.toArray⟩] := by
 obtain ⟨hl, hf⟩ := xn Tryz.underlying39 h
 rw [V1] at hl
 match cs, hl with
 | [a, b, c], _ =>
  have h0 : Tw Tryz.prog W 9 (([a, b, c].drop 0).take (Tryz.prog.cellsOf 9)) := hf 0 _ rfl
  rw [vG] at h0
  replace h0 : Tw Tryz.prog W 9 [a] := h0
  have h1 : Tw Tryz.prog W 3 (([a, b, c].drop 1).take (Tryz.prog.cellsOf 3)) := hf 1 _ rfl
  rw [yY] at h1
  replace h1 : Tw Tryz.prog W 3 [b] := h1
  have h2 : Tw Tryz.prog W 22 (([a, b, c].drop 2).take (Tryz.prog.cellsOf 22)) := hf 2 _ rfl
  rw [ug] at h2
  replace h2 : Tw Tryz.prog W 22 [c] := h2
  obtain ⟨s, e0, w0⟩ := kG Tryz.underlying9 h0
  obtain ⟨n, e1, w1⟩ := Kg Tryz.underlying3 h1
  obtain ⟨u, e2, w2⟩ := kG Tryz.underlying22 h2
  cases e0; cases e1; cases e2
  exact ⟨⟨s, n, u⟩, ⟨w0, w2⟩, rfl⟩
theorem zbu {W : World} {cs : List Value} (h : Tw Tryz.prog W 41 cs) : ∃ x : Ch, zbr x ∧ cs = [.string ⟨x.zL.toArray⟩, .string ⟨x.name.toArray⟩, .int .i64 x.date, .bool x.first] := by
 obtain ⟨hl, hf⟩ := xn Tryz.underlying41 h
 rw [W6] at hl
 match cs, hl with
 | [a, b, c, d], _ =>
  have h0 : Tw Tryz.prog W 9 (([a, b, c, d].drop 0).take (Tryz.prog.cellsOf 9)) := hf 0 _ rfl
  rw [vG] at h0
  replace h0 : Tw Tryz.prog W 9 [a] := h0
  have h1 : Tw Tryz.prog W 9 (([a, b, c, d].drop 1).take (Tryz.prog.cellsOf 9)) := hf 1 _ rfl
  rw [vG] at h1
  replace h1 : Tw Tryz.prog W 9 [b] := h1
  have h2 : Tw Tryz.prog W 3 (([a, b, c, d].drop 2).take (Tryz.prog.cellsOf 3)) := hf 2 _ rfl
  rw [yY] at h2
  replace h2 : Tw Tryz.prog W 3 [c] := h2
  have h3 : Tw Tryz.prog W 4 (([a, b, c, d].drop 3).take (Tryz.prog.cellsOf 4)) := hf 3 _ rfl
  rw [Ke] at h3
  replace h3 : Tw Tryz.prog W 4 [d] := h3
  obtain ⟨s, e0, w0⟩ := kG Tryz.underlying9 h0
  obtain ⟨u, e1, w1⟩ := kG Tryz.underlying9 h1
  obtain ⟨n, e2, w2⟩ := Kg Tryz.underlying3 h2
  obtain ⟨b, e3⟩ := zda Tryz.underlying4 h3
  cases e0; cases e1; cases e2; cases e3
  exact ⟨⟨s, u, n, b⟩, ⟨w0, w1⟩, rfl⟩
theorem Yv {W : World} {cs : List Value} (h : Tw Tryz.prog W 28 cs) : ∃ (f : List Fx) (c : List Ch) (u v : Value), cs = [u, v] ∧ (∀ x ∈ f, zaf x) ∧ (∀ x ∈ c, zbr x) ∧ f.length * 40 ≤ reachBytes ∧ c.length * 48 ≤ reachBytes ∧ Rep E0 W (fxS f) [] u ∧ Rep E0 W (chS c) [] v := by
 obtain ⟨hl, hf⟩ := xn Tryz.underlying28 h
 rw [Y2] at hl
 match cs, hl with
 | [a, b], _ =>
  have h0 : Tw Tryz.prog W 25 (([a, b].drop 0).take (Tryz.prog.cellsOf 25)) := hf 0 _ rfl
  rw [zbq] at h0
  replace h0 : Tw Tryz.prog W 25 [a] := h0
  have h1 : Tw Tryz.prog W 26 (([a, b].drop 1).take (Tryz.prog.cellsOf 26)) := hf 1 _ rfl
  rw [Ur] at h1
  replace h1 : Tw Tryz.prog W 26 [b] := h1
  obtain ⟨f, u, e0, gf, wf, _, rf⟩ := Q1 Fx.nil Fx.cell zaf Tryz.underlying25 V1 (by decide) (fun cs' h' => by
   obtain ⟨x, hx, rfl⟩ := UW h'
   refine ⟨x, hx, fun o ho => ?_⟩
   match o, ho with
   | 0, _ => exact ⟨_, rfl, rfl, by simp [Fx.cell, Rep]⟩
   | 1, _ => exact ⟨_, rfl, rfl, by simp [Fx.cell, Rep]⟩
   | 2, _ => exact ⟨_, rfl, rfl, by simp [Fx.cell, Rep]⟩) h0
  obtain ⟨c, v, e1, gc, wc, _, rc⟩ := Q1 Ch.nil Ch.cell zbr Tryz.underlying26 W6 (by decide) (fun cs' h' => by
   obtain ⟨x, hx, rfl⟩ := zbu h'
   refine ⟨x, hx, fun o ho => ?_⟩
   match o, ho with
   | 0, _ => exact ⟨_, rfl, rfl, by simp [Ch.cell, Rep]⟩
   | 1, _ => exact ⟨_, rfl, rfl, by simp [Ch.cell, Rep]⟩
   | 2, _ => exact ⟨_, rfl, rfl, by simp [Ch.cell, Rep]⟩
   | 3, _ => exact ⟨_, rfl, rfl, by simp [Ch.cell, Rep]⟩) h1
  cases e0; cases e1
  have b1 : Tryz.prog.bytesOf 39 = 40 := by kernel_rfl
  have b2 : Tryz.prog.bytesOf 41 = 48 := by kernel_rfl
  rw [b1] at wf
  rw [b2] at wc
  exact ⟨f, c, _, _, rfl, gf, gc, wf, wc, rf, rc⟩
theorem zdm {W : World} {cs : List Value} (h : Tw Tryz.prog W 28 cs) : ∃ p : List Fx × List Ch, zgs p ∧ Rep E0 W (envA p.1 p.2) [] (.agg cs.toArray) := by
 obtain ⟨f, c, u, v, rfl, gf, gc, wf, wc, rf, rc⟩ := Yv h
 have hr := reachBytes_lt
 refine ⟨(f, c), ⟨by show f.length < _; omega, by show c.length < _; omega, fun j hj => ?_, fun j hj => ?_⟩, ?_⟩
 ·have := gf (f.getD j Fx.nil) (by simp only at hj; simp [List.getD, hj])
  exact ⟨by have := this.1; show (f.getD j Fx.nil).name.length < _; omega, by have := this.2; show (f.getD j Fx.nil).value.length < _; omega⟩
 ·have := gc (c.getD j Ch.nil) (by simp only at hj; simp [List.getD, hj])
  exact ⟨by have := this.1; show (c.getD j Ch.nil).zL.length < _; omega, by have := this.2; show (c.getD j Ch.nil).name.length < _; omega⟩
 ·simp only [RepL, Rep, envA]
  exact ⟨[u, v], rfl, u, _, rfl, rf, v, _, rfl, rc, rfl⟩
end Go.Proofs.YtpmofcdjkhmdaaaGreat
end

/- Corporate actions as data. -/
section
set_option maxRecDepth 100000
namespace Go.Proofs.YtpmofcdjkhmdaaaGreat
open Go Go.Sx Go.Nov Go.Proofs.Tryz Go.ChangeShapes Go.WideShapes Go.ChangeAt Go.RowKit
theorem UA : Tryz.prog.cellsOf 24 = 5 := by kernel_rfl
theorem zf0 {W : World} {cs : List Value} (h : Tw Tryz.prog W 24 cs) : ∃ x : Ca, True ∧ Rep E0 W x.av [] (.agg cs.toArray) := by
 obtain ⟨hl, hf⟩ := xn Tryz.underlying24 h
 rw [UA] at hl
 match cs, hl with
 | [a, b, c, d, e], _ =>
  have h0 : Tw Tryz.prog W 9 (([a, b, c, d, e].drop 0).take (Tryz.prog.cellsOf 9)) := hf 0 _ rfl
  rw [vG] at h0
  replace h0 : Tw Tryz.prog W 9 [a] := h0
  have h1 : Tw Tryz.prog W 9 (([a, b, c, d, e].drop 1).take (Tryz.prog.cellsOf 9)) := hf 1 _ rfl
  rw [vG] at h1
  replace h1 : Tw Tryz.prog W 9 [b] := h1
  have h2 : Tw Tryz.prog W 3 (([a, b, c, d, e].drop 2).take (Tryz.prog.cellsOf 3)) := hf 2 _ rfl
  rw [yY] at h2
  replace h2 : Tw Tryz.prog W 3 [c] := h2
  have h3 : Tw Tryz.prog W 22 (([a, b, c, d, e].drop 3).take (Tryz.prog.cellsOf 22)) := hf 3 _ rfl
  rw [ug] at h3
  replace h3 : Tw Tryz.prog W 22 [d] := h3
  have h4 : Tw Tryz.prog W 22 (([a, b, c, d, e].drop 4).take (Tryz.prog.cellsOf 22)) := hf 4 _ rfl
  rw [ug] at h4
  replace h4 : Tw Tryz.prog W 22 [e] := h4
  obtain ⟨x0, y0, w0⟩ := kG Tryz.underlying9 h0
  obtain ⟨x1, y1, w1⟩ := kG Tryz.underlying9 h1
  obtain ⟨x2, y2, w2⟩ := Kg Tryz.underlying3 h2
  obtain ⟨x3, y3, w3⟩ := kG Tryz.underlying22 h3
  obtain ⟨x4, y4, w4⟩ := kG Tryz.underlying22 h4
  cases y0; cases y1; cases y2; cases y3; cases y4
  refine ⟨⟨x0, x1, x2, x3, x4⟩, trivial, ?_⟩
  simp only [RepL, Rep, Ca.av]
  exact ⟨_, rfl, _, _, rfl, rfl, _, _, rfl, rfl, _, _, rfl, rfl, _, _, rfl, rfl, _, _, rfl, rfl, rfl⟩
end Go.Proofs.YtpmofcdjkhmdaaaGreat
end

/- For every input the law returns true, and each argument reads behind the call as it read before. -/
section
set_option maxRecDepth 100000
namespace Go.Proofs.YtpmofcdjkhmdaaaGreat
open Go Go.Sx Go.Nov Go.Proofs.Tryz Go.ChangeShapes Go.WideShapes Go.ChangeAt Go.RowKit
theorem walk {W : World} {v0 v1 : List Value} (h0 : Tw Tryz.prog W 24 v0) (h1 : Tw Tryz.prog W 28 v1) :
  Calls Tryz.prog 3 #[.agg v0.toArray, .agg v1.toArray] W fun e W' => e = .returned (.bool true) ∧ Below W.heap.size W W' := by
 obtain ⟨a, ag, ar⟩ := zf0 h0
 obtain ⟨v, vg, vr⟩ := zdm h1
 refine YG (fn := Tryz.f3) (c := Tryz.f3.body.getD .skip) rfl rfl rfl za7 (args := [a.av, envA v.1 v.2]) (vals := [.agg v0.toArray, .agg v1.toArray]) ?_ ?_ Y9
 ·refine ⟨(a, v), ⟨?_, ⟨ag, vg⟩⟩, ⟨true, rfl⟩, ?_⟩
  ·simp [eqL, eqA, eqA0, eqL0, envA, fxS, chS, Fx.av, Ch.av, Ex.exA, Ex.exS, Ca.av, za]
  ·rintro _ rfl
   rfl
 ·exact ⟨_, _, rfl, ar, ⟨_, _, rfl, vr, rfl⟩⟩
theorem own : ownKnob Tryz.prog.godebug = none := by kernel_rfl
theorem laid : laidOutB Tryz.prog = true := by kernel_rfl
theorem lifted (os : Os) (started : os.Started) (H : Type) (enc : TypeId × Value → H) :
  ReturnsInHanded {} Tryz.checked os 3 .any (Rows.corporateWorldsSpec.pre6 enc Tryz.prog Tryz.f3 Rows.corporateWorldsRow.domain false) (Rows.corporateWorldsSpec.post enc Tryz.prog Tryz.f3 false true false false) := by
 refine returnsInHanded_of_change_sized (C := Tryz.checked) own started (by kernel_rfl) Tryz.func3
  (ChangeSpec.witness6 (enc := enc) (C := Tryz.checked) false ⟨#[], #[.agg #[.string ⟨#[]⟩, .string ⟨#[]⟩, .int .i64 0, .string ⟨#[]⟩, .string ⟨#[]⟩], .agg #[.slice none 0 0, .slice none 0 0]], []⟩ 8 (by kernel_rfl) (by kernel_rfl) (by kernel_rfl) (by kernel_rfl)) ?_
 intro W base args ds gs before hval0 hW hcnd hwt _
 have hval : ∀ (j : Nat) t v, Tryz.f3.params[j]? = some t → args[j]? = some v → Value.okWide Tryz.prog W .any base t v := hval0
 have hW' := hW
 obtain ⟨p, q, hA0, hV, rfl, hfz, hnd⟩ := hW
 have hA : DataW.TrodAll enc Tryz.prog W 0 (fun _ => true) true Tryz.f3.params.toList args.toList ds p := hA0
 rw [Tryz.params3] at hA hval
 obtain ⟨v0, vs0, d0, ds0, p0, q0, hargs, rfl, rfl, h0, r0⟩ := trodAll_cons hA
 obtain ⟨v1, vs1, d1, ds1, p1, q1, rfl, rfl, rfl, h1, r1⟩ := trodAll_cons r0
 obtain ⟨rfl, rfl, rfl⟩ := trodAll_nil r1
 obtain rfl : args = #[v0, v1] := by cases args; simp_all
 obtain ⟨rfl, rfl⟩ := trodVars_none hV
 clear hA0 hval0
 simp only [List.append_nil] at hW' hwt
 have hw : ∀ (j : Nat) (t : TypeId) (d : DataW H), [24, 28][j]? = some t → [d0, d1][j]? = some d → ∀ n ∈ d.weights Tryz.prog t, n ≤ reachBytes := fun j t d ht hd n hn => by
  have := List.all_eq_true.1 hwt n (DataW.weights_mem_each (j := j) (t := t) (d := d) (by exact ht) (by exact hd) n hn)
  simpa using this
 obtain ⟨c0, rfl, _⟩ := okWide_struct Tryz.underlying24 (hval 0 24 v0 rfl rfl)
 obtain ⟨c1, rfl, _⟩ := okWide_struct Tryz.underlying28 (hval 1 28 v1 rfl rfl)
 have t0 : Tw Tryz.prog W 24 c0.toList := by
  obtain ⟨fuel, hf⟩ := h0
  exact ⟨H, enc, 0, fuel, d0, p0, by simpa [Value.cells] using hf, hw 0 _ d0 rfl rfl⟩
 have t1 : Tw Tryz.prog W 28 c1.toList := by
  obtain ⟨fuel, hf⟩ := h1
  exact ⟨H, enc, 0, fuel, d1, p1, by simpa [Value.cells] using hf, hw 1 _ d1 rfl rfl⟩
 have hlt : ∀ x ∈ p0 ++ p1, x.block < W.heap.size := fun x hx => by simpa using hW'.lt x (by simpa using hx)
 have hcall := walk t0 t1
 simp only [Array.toArray_toList] at hcall
 refine hcall.mono fun e W' ⟨he, hb⟩ => ?_
 subst he
 refine ⟨_, rfl, _, _, _, [], p0 ++ p1, [], hW', trodAll_mk1 (shut_bool Tryz.underlying4 true), ?_, rfl, hb.frame _, fun h => by cases h⟩
 exact trodAll_mk2 (Below.trod laid (by kernel_rfl) (of_decide_eq_true (by kernel_rfl)) h0 hb fun x hx => hlt x (by simp [hx])) (Below.trod laid (by kernel_rfl) (of_decide_eq_true (by kernel_rfl)) h1 hb fun x hx => hlt x (by simp [hx]))
theorem over : Rows.corporateWorldsRow.holds Tryz.pinned (OpenSpec.ofChange Rows.corporateWorldsSpec) :=
 OpenClaim.holds_of_wide 3 Tryz.f3 rfl rfl rfl rfl rfl rfl rfl ⟨rfl, rfl, rfl, rfl, rfl⟩ rfl rfl rfl rfl rfl (by kernel_rfl) Tryz.func3 (by kernel_rfl)
  (of_decide_eq_true (by kernel_rfl)) (by unfold Func.isWrapper; first | (rw [if_pos (by decide +kernel)]; kernel_rfl) | (rw [if_neg (by decide +kernel)]; exact ⟨rfl, rfl⟩))
  (fun os started H enc _ => lifted os started H enc)
theorem corporateWorlds_holds : Rows.CorporateWorldsSaid := over
end Go.Proofs.YtpmofcdjkhmdaaaGreat
end
