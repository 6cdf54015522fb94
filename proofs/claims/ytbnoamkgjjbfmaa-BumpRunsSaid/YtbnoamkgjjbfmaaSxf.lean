/- The law returns true for every input, and each argument reads afterwards as it read before; no condition. -/
import Derived.Test.YtbnoamkgjjbfmaaSxe
import Derived.SizedLaws
import Derived.ChangeArms
import Derived.Deep.Slices
import Derived.Carry
import Derived.LaidMore
import Derived.WideKeyElems2
import Derived.ProofKit
import Derived.OpenShut
import Derived.ReadAgain
import Derived.Test.YtbnoamkgjjbfmaaRows
set_option linter.unusedVariables false
set_option linter.unusedSimpArgs false
set_option linter.unusedSectionVars false

/- Tapes: runs with their checks, values, degrees. -/
section
set_option maxRecDepth 100000
open Go Go.Sx Go.Proofs Go.Nov
namespace Go.Proofs.Try
attribute [local simp] eqKV eqA eqA0 eqH eqB eqL eqL0
noncomputable def K10 : List Go.Sx.Item := [.code (Try.f10.body.getD .skip)]
noncomputable def K14 : List Go.Sx.Item := [.code (Try.f14.body.getD .skip)]
def KG : Ctr := ctrP true (fun p : Tp × List (List UInt8) => [p.1.av, ratS p.2]) (fun p => ji p.1 ∧ vQ p.2) (fun p r => r = trun p.1 p.2) (fun _ (r : List (List UInt8) × Int) => (.tup [.osl 0 1 0 r.1.length, .int .i64 r.2], [.arr r.1.length 1 (ratG r.1)]))
def SbRn (inp : List (List UInt8)) (i : Nat) : KV := [(1, ratS inp), (2, .ptr 0 0), (20, ratS inp), (21, .int .i64 (inp.length : Int)), (22, .int .i64 (i : Int))]
def HbRn (n : Int) (ops : List TOp) : Heap := [.box [.int .i64 n, opS ops]]
noncomputable def GT3 : Nat → Option Ctr := fun f => if f = 17 then some (uq) else if f = 30 then some (u7) else if f = 31 then some (Xk) else none
theorem UD : ∀ g c, GT3 g = some c → zd Try.prog g c := okIf y7 (okIf yD (okIf zbe (zq)))
theorem KU : zd Try.prog 10 KG := by
 refine uG (fn := Try.f10) (c := Try.f10.body.getD .skip) rfl rfl rfl fun p hp O w0 Q hq => ?_
 obtain ⟨⟨n, ops⟩, inp⟩ := p
 obtain ⟨hs, hr⟩ := hp
 replace hq := hq _ rfl
 simp only at hs hr hq
 refine zb.run hmix UD [1, 2, 20, 21, 22] 400 (T := .ex (fun (x : Tp) => eqL [AV.agg [AV.int .i64 n, AV.sl ops.length 4 (opG ops)]] [AV.agg [AV.int .i64 (Tp.n x), AV.sl (List.length (Tp.ops x)) 4 (opG (Tp.ops x))]] ∧ ji x) fun n_1 => .all (fun (r : Int) => r = zp n_1) fun n_2 => .ite (!decide (n_2 = 0)) (.leaf (.ret [.nils, .int .i64 n_2] [.box [.int .i64 n, .sl ops.length 4 (opG ops)]])) (.ite (!decide ((↑inp.length : Int) = n)) (.leaf (.ret [.nils, .int .i64 2] [.box [.int .i64 n, .sl ops.length 4 (opG ops)]])) (.leaf (.loop (Prod.fst (lps K10 0)) (Prod.snd (lps K10 0)) [(1, .sl inp.length 1 (ratG inp)), (2, .ptr 0 0), (20, .sl inp.length 1 (ratG inp)), (21, .int .i64 inp.length), (22, .int .i64 0)] [.box [.int .i64 n, .sl ops.length 4 (opG ops)]])))) (by kernel_rfl) ?_
 simp only [Tree.holds, zc]
 have bad : ∀ (e : Int) (h : Heap), preT ⟨n, ops⟩ inp = e → e ≠ 0 → RetR KG 0 (upQ Q) [.nils, .int .i64 e] h := by
  rintro e h rfl hne
  have e : trun ⟨n, ops⟩ inp = ([], preT ⟨n, ops⟩ inp) := by unfold trun; rw [if_pos hne]
  rw [e] at hq
  exact uL _ h hq
 refine ⟨⟨n, ops⟩, ⟨⟨⟨⟨rfl, rfl⟩, ⟨rfl, rfl, za _ _ _⟩, trivial⟩, trivial⟩, hs⟩, ⟨_, rfl⟩, ?_⟩
 rintro _ rfl
 refine ⟨fun h => ?_, fun h => ⟨fun h2 => ?_, fun h2 => ?_⟩⟩
 ·have h : zp ⟨n, ops⟩ ≠ 0 := by simpa using h
  exact bad _ _ (by unfold preT; rw [if_pos h]) h
 ·have h : zp ⟨n, ops⟩ = 0 := by simpa using h
  have h2 : (inp.length : Int) ≠ n := by simpa using h2
  exact bad _ _ (by unfold preT; rw [if_neg (by simp [h]), if_pos h2]) (by decide)
 have h : zp ⟨n, ops⟩ = 0 := by simpa using h
 have h2 : (inp.length : Int) = n := by simpa using h2
 have hpre : preT ⟨n, ops⟩ inp = vz inp := by unfold preT; rw [if_neg (by simp [h]), if_neg (by simp [h2])]
 obtain ⟨hr1, hr2⟩ := hr
 refine zb.loop (ι := {i : Nat // i ≤ inp.length ∧ vz (inp.drop i) = vz inp}) (fun i => SbRn inp i.1) (fun _ => HbRn n ops) (fun i => inp.length - i.1) ⟨0, Nat.zero_le _, rfl⟩ 0 ?_ ?_ (by kernel_rfl)
 ·exact ⟨by simp [SbRn, ratS, za], by simp [HbRn, opS, za], by kernel_rfl, Nat.zero_le _⟩
 rintro ⟨i, hil, hie⟩
 refine zb.run hmix UD [1, 2, 20, 21, 22] 400 (T := .ite (decide ((↑i : Int) < inp.length)) (.side ((0 : Int) ≤ i ∧ (↑i : Int) < inp.length) (.ex (fun (x : List UInt8) => eqL [AV.str (List.getD inp (Int.toNat (↑i : Int)) [])] [AV.str x] ∧ x.length < 4611686018427387904) fun n_1 => .all (fun (r : Int) => r = errR n_1) fun n_2 => .ite (!decide (n_2 = 0)) (.leaf (.ret [.nils, .int .i64 n_2] [.box [.int .i64 n, .sl ops.length 4 (opG ops)]])) (.side (inR .i64 ((↑i : Int) + (1 : Int))) (.leaf (.back 0 [(1, .sl inp.length 1 (ratG inp)), (2, .ptr 0 0), (20, .sl inp.length 1 (ratG inp)), (21, .int .i64 inp.length), (22, .int .i64 ((↑i : Int) + (1 : Int)))] [.box [.int .i64 n, .sl ops.length 4 (opG ops)]]))))) (.ex (fun (x : Tp × List (List UInt8)) => eqL [AV.agg [AV.int .i64 n, AV.sl ops.length 4 (opG ops)], AV.sl inp.length 1 (ratG inp)] [AV.agg [AV.int .i64 (Tp.n x.1), AV.sl (List.length (Tp.ops x.1)) 4 (opG (Tp.ops x.1))], AV.sl x.2.length 1 (ratG x.2)] ∧ zp x.1 = 0 ∧ (↑x.2.length : Int) = Tp.n x.1 ∧ allQ x.2) fun n_1 => .all (fun (r : List (List UInt8) × Int) => r = runF n_1.2 (Tp.ops n_1.1) []) fun n_2 => .leaf (.ret [.osl 1 1 0 n_2.1.length, .int .i64 n_2.2] [.box [.int .i64 n, .sl ops.length 4 (opG ops)], .arr n_2.1.length 1 (ratG n_2.1)]))) (by kernel_rfl) ?_
 simp only [Tree.holds, zc, inR, lo, hi, Int.toNat_natCast]
 refine ⟨fun hlt => ?_, fun hge => ?_⟩
 ·have hlt : i < inp.length := by have := of_decide_eq_true hlt; omega
  rw [Zd hlt] at hie
  have hl := hr2 i hlt
  refine ⟨by omega, fun _ => ⟨inp.getD i [], ⟨⟨rfl, trivial⟩, by omega⟩, ⟨_, rfl⟩, ?_⟩⟩
  rintro _ rfl
  refine ⟨fun h3 => ?_, fun h3 => ⟨by omega, fun _ => ?_⟩⟩
  ·have h3 : errR (inp.getD i []) ≠ 0 := by simpa using h3
   rw [if_pos h3] at hie
   exact bad _ _ (by rw [hpre, hie]) h3
  ·have h3 : errR (inp.getD i []) = 0 := by simpa using h3
   rw [if_neg (fun g => g h3)] at hie
   rw [if_pos trivial]
   exact ⟨⟨i + 1, hlt, hie⟩, by show inp.length - (i + 1) < inp.length - i; omega, by simp [SbRn, ratS, za], by simp [HbRn, opS, za], by kernel_rfl, Nat.zero_le _⟩
 ·have hge : i = inp.length := by have := of_decide_eq_false hge; omega
  subst hge
  rw [List.drop_length] at hie
  have hq0 : allQ inp := Jv.1 hie.symm
  refine ⟨(⟨n, ops⟩, inp), ⟨⟨⟨⟨rfl, rfl⟩, ⟨rfl, rfl, za _ _ _⟩, trivial⟩, ⟨rfl, rfl, za _ _ _⟩, trivial⟩, h, h2, hq0⟩, ⟨_, rfl⟩, ?_⟩
  rintro _ rfl
  have e : trun ⟨n, ops⟩ inp = runF inp ops [] := by unfold trun; rw [if_neg]; rw [hpre, ← hie]; simp [vz]
  rw [e] at hq
  refine RetR.outs [1] rfl rfl (.inl hq) (fun _ => ⟨?_, ?_⟩) ?_ ?_ rfl
  ·simp [resV, new2, new1, new0, z8, zP]
  ·simp only [List.mem_cons, List.not_mem_nil, or_false, forall_eq]
   exact uF (za _ _ _)
  ·simp [resV, exp2, exp1, exp0, z8, ren0, eqA2, eqL1]
  ·exact ⟨⟨rfl, rfl, za _ _ _⟩, trivial⟩
theorem Wc {t : Tp} {inp : List (List UInt8)} (h : (trun t inp).2 = 0) : zp t = 0 ∧ allQ (trun t inp).1 ∧ (trun t inp).1.length = t.ops.length := by
 unfold trun at h ⊢
 by_cases g : preT t inp = 0
 ·rw [if_neg (fun k => k g)] at h ⊢
  obtain ⟨p1, p2, p3⟩ := QT.1 g
  obtain ⟨c1, c2, c3, c4, c5⟩ := qh.1 p1
  obtain ⟨a1, a2, a3⟩ := uU (n := t.n) p3 p2 t.ops [] _ (fun y hy => absurd hy (by simp)) (jC c5 t.ops 0 (List.drop_zero)) (show runF inp t.ops [] = ((runF inp t.ops []).1, 0) by rw [← h])
  exact ⟨p1, a1, by simpa using a3⟩
 ·rw [if_pos g] at h; exact absurd h g
noncomputable def zac : Ctr := inlC Try.prog noG 100 Try.f34
theorem U4 : zd Try.prog 34 zac := xk hmix zy rfl rfl
def zc1 : Ctr := ctrP true (fun p : Tp × List (List UInt8) => [p.1.av, ratS p.2]) (fun p => ji p.1 ∧ vQ p.2) (fun p r => r = zA p.1 p.2) (fun _ (r : List UInt8 × Int) => (.tup [.str r.1, .int .i64 r.2], []))
noncomputable def GT4 : Nat → Option Ctr := fun f => if f = 10 then some (KG) else if f = 34 then some (zac) else none
theorem zda : ∀ g c, GT4 g = some c → zd Try.prog g c := okIf KU (okIf U4 (zq))
theorem zbx : zd Try.prog 12 zc1 := by
 refine zg (fn := Try.f12) (c := Try.f12.body.getD .skip) rfl rfl rfl fun p hp O w0 Q hq => ?_
 obtain ⟨⟨n, ops⟩, inp⟩ := p
 replace hq := hq _ rfl
 simp only at hp hq
 refine zb.run hmix zda [] 400 (T := .ex (fun (x : Tp × List (List UInt8)) => eqL [AV.agg [AV.int .i64 n, AV.sl ops.length 4 (opG ops)], AV.sl inp.length 1 (ratG inp)] [AV.agg [AV.int .i64 (Tp.n x.1), AV.sl (List.length (Tp.ops x.1)) 4 (opG (Tp.ops x.1))], AV.sl x.2.length 1 (ratG x.2)] ∧ ji x.1 ∧ vQ x.2) fun n_1 => .all (fun (r : List (List UInt8) × Int) => r = trun n_1.1 n_1.2) fun n_2 => .ite (!decide (n_2.2 = 0)) (.leaf (.ret [.str (Array.toList #[]), .int .i64 n_2.2] [.box [.int .i64 n, .sl ops.length 4 (opG ops)], .arr n_2.1.length 1 (ratG n_2.1)])) (.side (inR .i64 ((↑n_2.1.length : Int) - (1 : Int))) (.side ((0 : Int) ≤ n_2.1.length - (1 : Int) ∧ (↑n_2.1.length : Int) - (1 : Int) < n_2.1.length) (.leaf (.ret [.str (List.getD n_2.1 (0 + Int.toNat ((↑n_2.1.length : Int) - (1 : Int))) []), .int .i64 0] [.box [.int .i64 n, .sl ops.length 4 (opG ops)], .arr n_2.1.length 1 (ratG n_2.1)]))))) (by kernel_rfl) ?_
 simp only [Tree.holds, zc]
 refine ⟨(⟨n, ops⟩, inp), ⟨⟨⟨⟨rfl, rfl⟩, ⟨rfl, rfl, za _ _ _⟩, trivial⟩, ⟨rfl, rfl, za _ _ _⟩, trivial⟩, hp.1, hp.2⟩, ⟨_, rfl⟩, ?_⟩
 intro r hr
 replace hr : r = trun ⟨n, ops⟩ inp := hr
 unfold zA jb at hq
 rw [← hr] at hq
 simp only [inR, lo, hi]
 refine ⟨fun h => ?_, fun h => ?_⟩
 ·have h : r.2 ≠ 0 := by simpa using h
  rw [if_pos h] at hq
  exact RetR.scal hq rfl (by simp [resV])
 ·have h : r.2 = 0 := by simpa using h
  rw [if_neg (fun g => g h)] at hq
  obtain ⟨c, _, l⟩ := Wc (hr ▸ h)
  rw [← hr] at l
  obtain ⟨c1, _, _, c4, _⟩ := qh.1 c
  refine ⟨by omega, fun _ => ⟨by omega, fun _ => ?_⟩⟩
  have e : 0 + ((r.1.length : Int) - 1).toNat = r.1.length - 1 := by omega
  rw [e]
  exact RetR.scal hq rfl (by simp [resV])
def zcc : Ctr := ctrP true (fun p : Tp × Int => [p.1.av, .int .i64 p.2]) (fun p => ji p.1) (fun p r => r = degT p.1 p.2) (fun _ (r : Int × Int) => (.tup [.int .i64 r.1, .int .i64 r.2], []))
theorem J0 {l : List Int} {v : Int} {n i : Nat} (h : l.length = i) : eqG n 1 (tgI .i64 (updI (dgF l) i v)) (tgI .i64 (dgF (l ++ [v]))) := by
 intro j o hj ho
 simp only [tgI, updI, dgF]
 congr 1
 by_cases hji : j = i
 ·subst hji; subst h
  simp [List.getD]
 ·rw [if_neg hji]
  simp only [List.getD, List.getElem?_append]
  split
  ·rfl
  ·rename_i g
   rw [List.getElem?_eq_none (by omega), List.getElem?_eq_none (by simp; omega)]
theorem zbj (n : Nat) : eqG n 1 (js [.int .i64 0]) (tgI .i64 (dgF [])) := by
 intro j o hj ho
 have ho : o = 0 := by omega
 subst ho
 simp [js, tgI, dgF]
theorem zb8 {l : List Int} {n i : Nat} (h : l.length = i) : eqG n 1 (tgI .i64 (dgF l)) (tgI .i64 (dgF (l ++ [0]))) := by
 intro j o hj ho
 simp only [tgI, dgF]
 congr 1
 simp only [List.getD, List.getElem?_append]
 split
 ·rfl
 ·rename_i g
  rw [List.getElem?_eq_none (by omega)]
  by_cases hji : j = l.length
  ·subst hji; simp
  ·rw [List.getElem?_eq_none (by simp; omega)]
def SbDg (k : Int) (ops : List TOp) (i : Nat) : KV := [(1, .int .i64 k), (7, .osl 1 1 0 ops.length), (27, opS ops), (28, .int .i64 (ops.length : Int)), (29, .int .i64 (i : Int)), (38, .undef), (39, .undef), (40, .undef), (41, .undef), (69, .undef), (70, .undef), (73, .undef), (74, .undef), (75, .undef), (76, .undef), (77, .undef), (78, .undef), (79, .undef)]
def HbDg (n : Int) (ops : List TOp) (l : List Int) : Heap := [.box [.int .i64 n, opS ops], .arrI .i64 ops.length (dgF l)]
noncomputable def GT5 : Nat → Option Ctr := fun f => if f = 17 then some (uq) else if f = 35 then some (bwI) else none
theorem zal : ∀ g c, GT5 g = some c → zd Try.prog g c := okIf y7 (okIf zca (zq))
theorem zby : zd Try.prog 14 zcc := by
 refine zg (fn := Try.f14) (c := Try.f14.body.getD .skip) rfl rfl rfl fun p hp O w0 Q hq => ?_
 obtain ⟨⟨n, ops⟩, k⟩ := p
 replace hq := hq _ rfl
 simp only at hp hq
 refine zb.run hmix zal [1, 7, 27, 28, 29, 38, 39, 40, 41, 69, 70, 73, 74, 75, 76, 77, 78, 79] 400 (T := .ex (fun (x : Tp) => eqL [AV.agg [AV.int .i64 n, AV.sl ops.length 4 (opG ops)]] [AV.agg [AV.int .i64 (Tp.n x), AV.sl (List.length (Tp.ops x)) 4 (opG (Tp.ops x))]] ∧ ji x) fun n_1 => .all (fun (r : Int) => r = zp n_1) fun n_2 => .ite (!decide (n_2 = 0)) (.leaf (.ret [.int .i64 0, .int .i64 n_2] [.box [.int .i64 n, .sl ops.length 4 (opG ops)]])) (.ite (!bif decide ((0 : Int) ≤ k) then decide (k < n) else false) (.leaf (.ret [.int .i64 0, .int .i64 2] [.box [.int .i64 n, .sl ops.length 4 (opG ops)]])) (.side ((0 : Int) ≤ ops.length ∧ (↑ops.length : Int) ≤ ops.length ∧ inR .i64 (↑ops.length : Int) ∧ Int.toNat (↑ops.length : Int) * 8 ≤ 140737488355328) (.leaf (.loop (Prod.fst (lps K14 0)) (Prod.snd (lps K14 0)) [(1, .int .i64 k), (7, .osl 1 1 0 (Int.toNat (↑ops.length : Int))), (27, .sl ops.length 4 (opG ops)), (28, .int .i64 ops.length), (29, .int .i64 0), (38, .undef), (39, .undef), (40, .undef), (41, .undef), (69, .undef), (70, .undef), (73, .undef), (74, .undef), (75, .undef), (76, .undef), (77, .undef), (78, .undef), (79, .undef)] [.box [.int .i64 n, .sl ops.length 4 (opG ops)], .arr (Int.toNat (↑ops.length : Int)) 1 (js [.int .i64 0])]))))) (by kernel_rfl) ?_
 simp only [Tree.holds, zc]
 refine ⟨⟨n, ops⟩, ⟨⟨⟨⟨rfl, rfl⟩, ⟨rfl, rfl, za _ _ _⟩, trivial⟩, trivial⟩, hp⟩, ⟨_, rfl⟩, ?_⟩
 rintro _ rfl
 refine ⟨fun h => ?_, fun h => ⟨fun h2 => ?_, fun h2 => ?_⟩⟩
 ·have h : zp ⟨n, ops⟩ ≠ 0 := by simpa using h
  unfold degT at hq
  rw [if_pos h] at hq
  exact RetR.scal hq rfl (by simp [resV])
 ·have h : zp ⟨n, ops⟩ = 0 := by simpa using h
  have h2 : ¬ (0 ≤ k ∧ k < n) := by
   rintro ⟨g1, g2⟩
   rw [decide_eq_true g1, decide_eq_true g2] at h2
   cases h2
  unfold degT at hq
  rw [if_neg (fun g => g h), if_neg h2] at hq
  exact RetR.scal hq rfl (by simp [resV])
 have h : zp ⟨n, ops⟩ = 0 := by simpa using h
 have h2 : 0 ≤ k ∧ k < n := by
  by_cases g1 : 0 ≤ k
  ·by_cases g2 : k < n
   ·exact ⟨g1, g2⟩
   ·rw [decide_eq_true g1, decide_eq_false g2] at h2; cases h2
  ·rw [decide_eq_false g1] at h2; cases h2
 obtain ⟨c1, c2, c3, c4, c5⟩ := qh.1 h
 simp only at c1 c2 c3 c4 c5
 simp only [inR, lo, hi, Int.toNat_natCast]
 refine ⟨⟨by omega, by omega, by omega, by omega⟩, fun _ => ?_⟩
 unfold degT at hq
 rw [if_neg (fun g => g h), if_pos h2] at hq
 refine zb.loop (ι := {p : Nat × List Int // p.1 ≤ ops.length ∧ p.2.length = p.1 ∧ (∀ j, degB (p.2.getD j 0)) ∧ degF k (ops.drop p.1) p.2 = degF k ops []}) (fun p => SbDg k ops p.1.1) (fun p => HbDg n ops p.1.2) (fun p => ops.length - p.1.1) ⟨(0, []), Nat.zero_le _, rfl, fun j => by simp [degB], by simp⟩ 0 ?_ ?_ (by kernel_rfl)
 ·exact ⟨by simp [SbDg, opS, za], ⟨by simp [opS, za], ⟨rfl, rfl, zbj _⟩, trivial⟩, by kernel_rfl, Nat.zero_le _⟩
 rintro ⟨⟨i, l⟩, hil, hll, hlb, hlr⟩
 simp only at hil hll hlb hlr
 refine zb.run hmix zal [1, 7, 27, 28, 29, 38, 39, 40, 41, 69, 70, 73, 74, 75, 76, 77, 78, 79] 400 (T := .ite (decide ((↑i : Int) < ops.length)) (.side ((0 : Int) ≤ i ∧ (↑i : Int) < ops.length) (.ite (bif decide (TOp.kind (List.getD ops (Int.toNat (↑i : Int)) TOp.nil) = (1 : Int)) then decide (TOp.a (List.getD ops (Int.toNat (↑i : Int)) TOp.nil) = k) else false) (.side ((0 : Int) ≤ i ∧ (↑i : Int) < ops.length) (.ite (decide (TOp.kind (List.getD ops (Int.toNat (↑i : Int)) TOp.nil) ≤ (2 : Int))) (.side (inR .i64 ((↑i : Int) + (1 : Int))) (.leaf (.back 0 [(1, .int .i64 k), (7, .osl 1 1 0 ops.length), (27, .sl ops.length 4 (opG ops)), (28, .int .i64 ops.length), (29, .int .i64 ((↑i : Int) + (1 : Int))), (38, .undef), (39, .undef), (40, .undef), (41, .undef), (69, .undef), (70, .undef), (73, .undef), (74, .undef), (75, .undef), (76, .undef), (77, .undef), (78, .undef), (79, .undef)] [.box [.int .i64 n, .sl ops.length 4 (opG ops)], Blk.arrI .i64 ops.length fun (j : Nat) => if j = 0 + Int.toNat (↑i : Int) then (1 : Int) else dgF l j, .box [.int .u8 (TOp.kind (List.getD ops (Int.toNat (↑i : Int)) TOp.nil)), .int .i64 (TOp.a (List.getD ops (Int.toNat (↑i : Int)) TOp.nil)), .int .i64 (TOp.b (List.getD ops (Int.toNat (↑i : Int)) TOp.nil)), .str (TOp.rat (List.getD ops (Int.toNat (↑i : Int)) TOp.nil))]]))) (.side ((0 : Int) ≤ TOp.a (List.getD ops (Int.toNat (↑i : Int)) TOp.nil) ∧ TOp.a (List.getD ops (Int.toNat (↑i : Int)) TOp.nil) < (↑ops.length : Int)) (.side ((0 : Int) ≤ TOp.b (List.getD ops (Int.toNat (↑i : Int)) TOp.nil) ∧ TOp.b (List.getD ops (Int.toNat (↑i : Int)) TOp.nil) < (↑ops.length : Int)) (.ite (bif bif decide (updI (dgF l) (0 + Int.toNat (↑i : Int)) (1 : Int) (0 + Int.toNat (TOp.a (List.getD ops (Int.toNat (↑i : Int)) TOp.nil))) = (-1 : Int)) then true else decide (updI (dgF l) (0 + Int.toNat (↑i : Int)) (1 : Int) (0 + Int.toNat (TOp.b (List.getD ops (Int.toNat (↑i : Int)) TOp.nil))) = (-1 : Int)) then true else bif decide (TOp.kind (List.getD ops (Int.toNat (↑i : Int)) TOp.nil) = (6 : Int)) then decide ((0 : Int) < updI (dgF l) (0 + Int.toNat (↑i : Int)) (1 : Int) (0 + Int.toNat (TOp.b (List.getD ops (Int.toNat (↑i : Int)) TOp.nil)))) else false) (.side ((0 : Int) ≤ i ∧ (↑i : Int) < ops.length) (.side (inR .i64 ((↑i : Int) + (1 : Int))) (.leaf (.back 0 [(1, .int .i64 k), (7, .osl 1 1 0 ops.length), (27, .sl ops.length 4 (opG ops)), (28, .int .i64 ops.length), (29, .int .i64 ((↑i : Int) + (1 : Int))), (38, .undef), (39, .undef), (40, .undef), (41, .undef), (69, .undef), (70, .undef), (73, .undef), (74, .undef), (75, .undef), (76, .undef), (77, .undef), (78, .undef), (79, .undef)] [.box [.int .i64 n, .sl ops.length 4 (opG ops)], Blk.arrI .i64 ops.length fun (j : Nat) => if j = 0 + Int.toNat (↑i : Int) then (-1 : Int) else updI (dgF l) (0 + Int.toNat (↑i : Int)) (1 : Int) j, .box [.int .u8 (TOp.kind (List.getD ops (Int.toNat (↑i : Int)) TOp.nil)), .int .i64 (TOp.a (List.getD ops (Int.toNat (↑i : Int)) TOp.nil)), .int .i64 (TOp.b (List.getD ops (Int.toNat (↑i : Int)) TOp.nil)), .str (TOp.rat (List.getD ops (Int.toNat (↑i : Int)) TOp.nil))]])))) (.ite (decide (TOp.kind (List.getD ops (Int.toNat (↑i : Int)) TOp.nil) = (5 : Int))) (.side (inR .i64 (updI (dgF l) (0 + Int.toNat (↑i : Int)) (1 : Int) (0 + Int.toNat (TOp.a (List.getD ops (Int.toNat (↑i : Int)) TOp.nil))) + updI (dgF l) (0 + Int.toNat (↑i : Int)) (1 : Int) (0 + Int.toNat (TOp.b (List.getD ops (Int.toNat (↑i : Int)) TOp.nil))))) (.side ((0 : Int) ≤ i ∧ (↑i : Int) < ops.length) (.side (inR .i64 ((↑i : Int) + (1 : Int))) (.leaf (.back 0 [(1, .int .i64 k), (7, .osl 1 1 0 ops.length), (27, .sl ops.length 4 (opG ops)), (28, .int .i64 ops.length), (29, .int .i64 ((↑i : Int) + (1 : Int))), (38, .undef), (39, .undef), (40, .undef), (41, .undef), (69, .undef), (70, .undef), (73, .undef), (74, .undef), (75, .undef), (76, .undef), (77, .undef), (78, .undef), (79, .undef)] [.box [.int .i64 n, .sl ops.length 4 (opG ops)], Blk.arrI .i64 ops.length fun (j : Nat) => if j = 0 + Int.toNat (↑i : Int) then min (updI (dgF l) (0 + Int.toNat (↑i : Int)) (1 : Int) (0 + Int.toNat (TOp.a (List.getD ops (Int.toNat (↑i : Int)) TOp.nil))) + updI (dgF l) (0 + Int.toNat (↑i : Int)) (1 : Int) (0 + Int.toNat (TOp.b (List.getD ops (Int.toNat (↑i : Int)) TOp.nil)))) (1000 : Int) else updI (dgF l) (0 + Int.toNat (↑i : Int)) (1 : Int) j, .box [.int .u8 (TOp.kind (List.getD ops (Int.toNat (↑i : Int)) TOp.nil)), .int .i64 (TOp.a (List.getD ops (Int.toNat (↑i : Int)) TOp.nil)), .int .i64 (TOp.b (List.getD ops (Int.toNat (↑i : Int)) TOp.nil)), .str (TOp.rat (List.getD ops (Int.toNat (↑i : Int)) TOp.nil))]]))))) (.side ((0 : Int) ≤ i ∧ (↑i : Int) < ops.length) (.side (inR .i64 ((↑i : Int) + (1 : Int))) (.leaf (.back 0 [(1, .int .i64 k), (7, .osl 1 1 0 ops.length), (27, .sl ops.length 4 (opG ops)), (28, .int .i64 ops.length), (29, .int .i64 ((↑i : Int) + (1 : Int))), (38, .undef), (39, .undef), (40, .undef), (41, .undef), (69, .undef), (70, .undef), (73, .undef), (74, .undef), (75, .undef), (76, .undef), (77, .undef), (78, .undef), (79, .undef)] [.box [.int .i64 n, .sl ops.length 4 (opG ops)], Blk.arrI .i64 ops.length fun (j : Nat) => if j = 0 + Int.toNat (↑i : Int) then max (updI (dgF l) (0 + Int.toNat (↑i : Int)) (1 : Int) (0 + Int.toNat (TOp.a (List.getD ops (Int.toNat (↑i : Int)) TOp.nil)))) (updI (dgF l) (0 + Int.toNat (↑i : Int)) (1 : Int) (0 + Int.toNat (TOp.b (List.getD ops (Int.toNat (↑i : Int)) TOp.nil)))) else updI (dgF l) (0 + Int.toNat (↑i : Int)) (1 : Int) j, .box [.int .u8 (TOp.kind (List.getD ops (Int.toNat (↑i : Int)) TOp.nil)), .int .i64 (TOp.a (List.getD ops (Int.toNat (↑i : Int)) TOp.nil)), .int .i64 (TOp.b (List.getD ops (Int.toNat (↑i : Int)) TOp.nil)), .str (TOp.rat (List.getD ops (Int.toNat (↑i : Int)) TOp.nil))]])))))))))) (.ite (decide (TOp.kind (List.getD ops (Int.toNat (↑i : Int)) TOp.nil) ≤ (2 : Int))) (.side (inR .i64 ((↑i : Int) + (1 : Int))) (.leaf (.back 0 [(1, .int .i64 k), (7, .osl 1 1 0 ops.length), (27, .sl ops.length 4 (opG ops)), (28, .int .i64 ops.length), (29, .int .i64 ((↑i : Int) + (1 : Int))), (38, .undef), (39, .undef), (40, .undef), (41, .undef), (69, .undef), (70, .undef), (73, .undef), (74, .undef), (75, .undef), (76, .undef), (77, .undef), (78, .undef), (79, .undef)] [.box [.int .i64 n, .sl ops.length 4 (opG ops)], Blk.arrI .i64 ops.length (dgF l), .box [.int .u8 (TOp.kind (List.getD ops (Int.toNat (↑i : Int)) TOp.nil)), .int .i64 (TOp.a (List.getD ops (Int.toNat (↑i : Int)) TOp.nil)), .int .i64 (TOp.b (List.getD ops (Int.toNat (↑i : Int)) TOp.nil)), .str (TOp.rat (List.getD ops (Int.toNat (↑i : Int)) TOp.nil))]]))) (.side ((0 : Int) ≤ TOp.a (List.getD ops (Int.toNat (↑i : Int)) TOp.nil) ∧ TOp.a (List.getD ops (Int.toNat (↑i : Int)) TOp.nil) < (↑ops.length : Int)) (.side ((0 : Int) ≤ TOp.b (List.getD ops (Int.toNat (↑i : Int)) TOp.nil) ∧ TOp.b (List.getD ops (Int.toNat (↑i : Int)) TOp.nil) < (↑ops.length : Int)) (.ite (bif bif decide (dgF l (0 + Int.toNat (TOp.a (List.getD ops (Int.toNat (↑i : Int)) TOp.nil))) = (-1 : Int)) then true else decide (dgF l (0 + Int.toNat (TOp.b (List.getD ops (Int.toNat (↑i : Int)) TOp.nil))) = (-1 : Int)) then true else bif decide (TOp.kind (List.getD ops (Int.toNat (↑i : Int)) TOp.nil) = (6 : Int)) then decide ((0 : Int) < dgF l (0 + Int.toNat (TOp.b (List.getD ops (Int.toNat (↑i : Int)) TOp.nil)))) else false) (.side ((0 : Int) ≤ i ∧ (↑i : Int) < ops.length) (.side (inR .i64 ((↑i : Int) + (1 : Int))) (.leaf (.back 0 [(1, .int .i64 k), (7, .osl 1 1 0 ops.length), (27, .sl ops.length 4 (opG ops)), (28, .int .i64 ops.length), (29, .int .i64 ((↑i : Int) + (1 : Int))), (38, .undef), (39, .undef), (40, .undef), (41, .undef), (69, .undef), (70, .undef), (73, .undef), (74, .undef), (75, .undef), (76, .undef), (77, .undef), (78, .undef), (79, .undef)] [.box [.int .i64 n, .sl ops.length 4 (opG ops)], Blk.arrI .i64 ops.length fun (j : Nat) => if j = 0 + Int.toNat (↑i : Int) then (-1 : Int) else dgF l j, .box [.int .u8 (TOp.kind (List.getD ops (Int.toNat (↑i : Int)) TOp.nil)), .int .i64 (TOp.a (List.getD ops (Int.toNat (↑i : Int)) TOp.nil)), .int .i64 (TOp.b (List.getD ops (Int.toNat (↑i : Int)) TOp.nil)), .str (TOp.rat (List.getD ops (Int.toNat (↑i : Int)) TOp.nil))]])))) (.ite (decide (TOp.kind (List.getD ops (Int.toNat (↑i : Int)) TOp.nil) = (5 : Int))) (.side (inR .i64 (dgF l (0 + Int.toNat (TOp.a (List.getD ops (Int.toNat (↑i : Int)) TOp.nil))) + dgF l (0 + Int.toNat (TOp.b (List.getD ops (Int.toNat (↑i : Int)) TOp.nil))))) (.side ((0 : Int) ≤ i ∧ (↑i : Int) < ops.length) (.side (inR .i64 ((↑i : Int) + (1 : Int))) (.leaf (.back 0 [(1, .int .i64 k), (7, .osl 1 1 0 ops.length), (27, .sl ops.length 4 (opG ops)), (28, .int .i64 ops.length), (29, .int .i64 ((↑i : Int) + (1 : Int))), (38, .undef), (39, .undef), (40, .undef), (41, .undef), (69, .undef), (70, .undef), (73, .undef), (74, .undef), (75, .undef), (76, .undef), (77, .undef), (78, .undef), (79, .undef)] [.box [.int .i64 n, .sl ops.length 4 (opG ops)], Blk.arrI .i64 ops.length fun (j : Nat) => if j = 0 + Int.toNat (↑i : Int) then min (dgF l (0 + Int.toNat (TOp.a (List.getD ops (Int.toNat (↑i : Int)) TOp.nil))) + dgF l (0 + Int.toNat (TOp.b (List.getD ops (Int.toNat (↑i : Int)) TOp.nil)))) (1000 : Int) else dgF l j, .box [.int .u8 (TOp.kind (List.getD ops (Int.toNat (↑i : Int)) TOp.nil)), .int .i64 (TOp.a (List.getD ops (Int.toNat (↑i : Int)) TOp.nil)), .int .i64 (TOp.b (List.getD ops (Int.toNat (↑i : Int)) TOp.nil)), .str (TOp.rat (List.getD ops (Int.toNat (↑i : Int)) TOp.nil))]]))))) (.side ((0 : Int) ≤ i ∧ (↑i : Int) < ops.length) (.side (inR .i64 ((↑i : Int) + (1 : Int))) (.leaf (.back 0 [(1, .int .i64 k), (7, .osl 1 1 0 ops.length), (27, .sl ops.length 4 (opG ops)), (28, .int .i64 ops.length), (29, .int .i64 ((↑i : Int) + (1 : Int))), (38, .undef), (39, .undef), (40, .undef), (41, .undef), (69, .undef), (70, .undef), (73, .undef), (74, .undef), (75, .undef), (76, .undef), (77, .undef), (78, .undef), (79, .undef)] [.box [.int .i64 n, .sl ops.length 4 (opG ops)], Blk.arrI .i64 ops.length fun (j : Nat) => if j = 0 + Int.toNat (↑i : Int) then max (dgF l (0 + Int.toNat (TOp.a (List.getD ops (Int.toNat (↑i : Int)) TOp.nil)))) (dgF l (0 + Int.toNat (TOp.b (List.getD ops (Int.toNat (↑i : Int)) TOp.nil)))) else dgF l j, .box [.int .u8 (TOp.kind (List.getD ops (Int.toNat (↑i : Int)) TOp.nil)), .int .i64 (TOp.a (List.getD ops (Int.toNat (↑i : Int)) TOp.nil)), .int .i64 (TOp.b (List.getD ops (Int.toNat (↑i : Int)) TOp.nil)), .str (TOp.rat (List.getD ops (Int.toNat (↑i : Int)) TOp.nil))]]))))))))))) (.side (inR .i64 ((↑ops.length : Int) - (1 : Int))) (.side ((0 : Int) ≤ ops.length - (1 : Int) ∧ (↑ops.length : Int) - (1 : Int) < ops.length) (.leaf (.ret [.int .i64 (dgF l (0 + Int.toNat ((↑ops.length : Int) - (1 : Int)))), .int .i64 0] [.box [.int .i64 n, .sl ops.length 4 (opG ops)], Blk.arrI .i64 ops.length (dgF l)]))))) (by kernel_rfl) ?_
 simp only [Tree.holds, zc, inR, lo, hi, Int.toNat_natCast, Nat.zero_add]
 refine ⟨fun hlt => ?_, fun hge => ?_⟩
 ·have hlt : i < ops.length := by have := of_decide_eq_true hlt; omega
  have hok := kq c5 hlt
  rw [QI hlt] at hlr
  obtain ⟨o, ho⟩ : ∃ o, ops.getD i TOp.nil = o := ⟨_, rfl⟩
  rw [ho] at hlr hok
  simp only [ho]
  simp only at hok
  have good : ∀ (v : Int) (f : Nat → Int) (bx : Blk), degS k o l = v → eqG ops.length 1 (tgI .i64 f) (tgI .i64 (dgF (l ++ [v]))) →
    (-9223372036854775808 ≤ (i : Int) + 1 ∧ (i : Int) + 1 ≤ 9223372036854775807) ∧ (-9223372036854775808 ≤ (i : Int) + 1 ∧ (i : Int) + 1 ≤ 9223372036854775807 → if True then ∃ x' : {p : Nat × List Int // p.1 ≤ ops.length ∧ p.2.length = p.1 ∧ (∀ j, degB (p.2.getD j 0)) ∧ degF k (ops.drop p.1) p.2 = degF k ops []}, ops.length - x'.1.1 < ops.length - i ∧
    LeK 0 Try.f14.ntmps [(1, .int .i64 k), (7, .osl 1 1 0 ops.length), (27, opS ops), (28, .int .i64 (ops.length : Int)), (29, .int .i64 ((i : Int) + 1)), (38, .undef), (39, .undef), (40, .undef), (41, .undef), (69, .undef), (70, .undef), (73, .undef), (74, .undef), (75, .undef), (76, .undef), (77, .undef), (78, .undef), (79, .undef)] [.box [.int .i64 n, opS ops], .arrI .i64 ops.length f, bx] (SbDg k ops x'.1.1) (HbDg n ops x'.1.2) else False) := by
   rintro v f bx rfl hg
   refine ⟨by omega, fun _ => ?_⟩
   rw [if_pos trivial]
   refine ⟨⟨(i + 1, l ++ [degS k o l]), hlt, by simp [hll], fun j => ?_, hlr⟩, by show ops.length - (i + 1) < ops.length - i; omega, by simp [SbDg, opS, za], ⟨by simp [opS, za], ⟨rfl, hg⟩, trivial⟩, by kernel_rfl, Nat.zero_le _⟩
   have hd := U3 (i := k) (o := o) hlb
   have hj := hlb j
   simp only [List.getD, List.getElem?_append] at hj ⊢
   split
   ·exact hj
   ·rename_i g
    by_cases g2 : j - l.length = 0
    ·rw [g2]; exact hd
    ·rw [List.getElem?_eq_none (by simp; omega)]; exact ⟨by decide, by decide⟩
  have ri : (0 : Int) ≤ (i : Int) ∧ (i : Int) < ops.length := by omega
  have h1 := qW hok
  have ha := hlb o.a.toNat
  have hb := hlb o.b.toNat
  refine ⟨ri, fun _ => ⟨fun k1 => ⟨ri, fun _ => ⟨fun k2 => ?_, fun k2 => ?_⟩⟩, fun k1 => ⟨fun k2 => ?_, fun k2 => ?_⟩⟩⟩
  ·have g : o.kind = 1 ∧ o.a = k := by
    by_cases g1 : o.kind = 1
    ·by_cases g2 : o.a = k
     ·exact ⟨g1, g2⟩
     ·rw [decide_eq_true g1, decide_eq_false g2] at k1; cases k1
    ·rw [decide_eq_false g1] at k1; cases k1
   exact good 1 (updI (dgF l) i 1) _ (by unfold degS; rw [if_pos g.1, if_pos g.2]) (J0 hll)
  ·exfalso
   have g : o.kind = 1 := by
    by_cases g1 : o.kind = 1
    ·exact g1
    ·rw [decide_eq_false g1] at k1; cases k1
   have := of_decide_eq_false k2
   omega
  ·have k2 := of_decide_eq_true k2
   refine good 0 (dgF l) _ ?_ (zb8 hll)
   unfold degS
   by_cases g1 : o.kind = 1
   ·rw [if_pos g1, if_neg]
    intro g2
    rw [decide_eq_true g1, decide_eq_true g2] at k1; cases k1
   ·rw [if_neg g1, if_pos (by omega)]
  ·have k2 := of_decide_eq_false k2
   have e0 : degS k o l = if dgF l o.a.toNat < 0 ∨ dgF l o.b.toNat < 0 then -1 else if o.kind = 5 then min (dgF l o.a.toNat + dgF l o.b.toNat) 1000 else if o.kind = 6 then (if 0 < dgF l o.b.toNat then -1 else dgF l o.a.toNat) else max (dgF l o.a.toNat) (dgF l o.b.toNat) := by
    unfold degS
    rw [if_neg (by omega), if_neg (by omega)]; rfl
   replace ha : degB (dgF l o.a.toNat) := ha
   replace hb : degB (dgF l o.b.toNat) := hb
   generalize dgF l o.a.toNat = x at *
   generalize dgF l o.b.toNat = y at *
   obtain ⟨ha1, ha2⟩ := ha
   obtain ⟨hb1, hb2⟩ := hb
   refine ⟨by omega, fun _ => ⟨by omega, fun _ => ⟨fun k3 => ⟨ri, fun _ => ?_⟩, fun k3 => ⟨fun k4 => ⟨by omega, fun _ => ⟨ri, fun _ => ?_⟩⟩, fun k4 => ⟨ri, fun _ => ?_⟩⟩⟩⟩⟩
   ·refine good (-1) (updI (dgF l) i (-1)) _ ?_ (J0 hll)
    rw [e0]
    by_cases g1 : x = -1
    ·rw [if_pos (by omega)]
    ·by_cases g2 : y = -1
     ·rw [if_pos (by omega)]
     ·rw [decide_eq_false g1, decide_eq_false g2] at k3
      by_cases g3 : o.kind = 6
      ·by_cases g4 : 0 < y
       ·rw [if_neg (by omega), if_neg (by omega), if_pos g3, if_pos g4]
       ·rw [decide_eq_true g3, decide_eq_false g4] at k3; cases k3
      ·rw [decide_eq_false g3] at k3; cases k3
   all_goals
    have k5 : ¬ (x < 0 ∨ y < 0) ∧ (o.kind = 6 → ¬ 0 < y) := by
     refine ⟨?_, fun g3 g4 => ?_⟩
     ·rintro (g | g)
      ·rw [decide_eq_true (show x = -1 by omega)] at k3; cases k3
      ·rw [decide_eq_true (show y = -1 by omega)] at k3
       by_cases g1 : x = -1
       ·rw [decide_eq_true g1] at k3; cases k3
       ·rw [decide_eq_false g1] at k3; cases k3
     ·rw [decide_eq_true g3, decide_eq_true g4] at k3
      by_cases g1 : x = -1
      ·rw [decide_eq_true g1] at k3; cases k3
      ·by_cases g2 : y = -1
       ·rw [decide_eq_false g1, decide_eq_true g2] at k3; cases k3
       ·rw [decide_eq_false g1, decide_eq_false g2] at k3; cases k3
   ·refine good _ (updI (dgF l) i _) _ ?_ (J0 hll)
    rw [e0, if_neg k5.1, if_pos (of_decide_eq_true k4)]
   ·refine good _ (updI (dgF l) i _) _ ?_ (J0 hll)
    rw [e0, if_neg k5.1, if_neg (of_decide_eq_false k4)]
    by_cases g6 : o.kind = 6
    ·rw [if_pos g6, if_neg (k5.2 g6)]
     have := k5.2 g6
     omega
    ·rw [if_neg g6]
 ·have hge : i = ops.length := by have := of_decide_eq_false hge; omega
  subst hge
  rw [Wa] at hlr
  refine ⟨by omega, fun _ => ⟨by omega, fun _ => ?_⟩⟩
  simp only at hq
  rw [← hlr] at hq
  have e : ((ops.length : Int) - 1).toNat = ops.length - 1 := by omega
  rw [e]
  exact RetR.scal hq rfl (by simp [resV, dgF])
end Go.Proofs.Try
end

/- The reference's integers: what its sums and products of digits mean. -/
section
namespace Go.Nov
theorem ze5 {l : List Nat} (h : ∀ p, p < l.length → l.getD p 0 < 10) : Ten.dig l := by
 intro d hd
 obtain ⟨i, hi, rfl⟩ := List.getElem_of_mem hd
 have := h i hi
 simpa [List.getD, hi] using this
theorem za2 {l : List Nat} {n : Nat} (hn : l.length = n + 1) (h : ∀ p, p < n → l.getD p 0 < 10) (hv : Ten.val l < 10 ^ (n + 1)) : Ten.dig l := by
 refine ze5 fun p hp => ?_
 rcases Nat.lt_or_ge p n with h1 | h1
 ·exact h p h1
 ·have : p = n := by omega
  subst this
  have e := Ten.zj l p
  rw [List.take_of_length_le (by omega)] at e
  rw [Nat.pow_succ] at hv
  rcases Nat.lt_or_ge (l.getD p 0) 10 with h2 | h2
  ·exact h2
  ·have : 10 ^ p * 10 ≤ 10 ^ p * l.getD p 0 := Nat.mul_le_mul_left _ h2
   have hB : Ten.B = 10 := rfl
   rw [hB] at e
   omega
def KF (p : List Nat × List Nat) (r : List Nat) : Prop := r.length = max p.1.length p.2.length + 1 ∧ Ten.dig r ∧ Ten.val r = Ten.val p.1 + Ten.val p.2
theorem za6 {l m o : List Nat} {c n : Nat} (hl : Ten.dig l) (hm : Ten.dig m) (hn : n = max l.length m.length + 1) (he : Ten.val o + 10 ^ n * c = Ten.val (l.take n) + Ten.val (m.take n)) : Ten.val o = Ten.val l + Ten.val m := by
 rw [List.take_of_length_le (by omega), List.take_of_length_le (by omega)] at he
 have h1 := Ten.z9 hl
 have h2 := Ten.z9 hm
 have hB : Ten.B = 10 := rfl
 rw [hB] at h1 h2
 have h3 : 10 ^ l.length ≤ 10 ^ (max l.length m.length) := Nat.pow_le_pow_right (by decide) (by omega)
 have h4 : 10 ^ m.length ≤ 10 ^ (max l.length m.length) := Nat.pow_le_pow_right (by decide) (by omega)
 have h5 : 10 ^ n = 10 ^ (max l.length m.length) * 10 := by rw [hn, Nat.pow_succ]
 rcases Nat.eq_zero_or_pos c with h | h
 ·rw [h] at he; omega
 ·have : 10 ^ n * 1 ≤ 10 ^ n * c := Nat.mul_le_mul_left _ h
  omega
theorem KY {l m : List Nat} (hl : Ten.dig l) (hm : Ten.dig m) : ∃ r, KF (l, m) r := by
 have h1 := Ten.z9 hl
 have h2 := Ten.z9 hm
 have hB : Ten.B = 10 := rfl
 rw [hB] at h1 h2
 have h3 : 10 ^ l.length ≤ 10 ^ (max l.length m.length) := Nat.pow_le_pow_right (by decide) (by omega)
 have h4 : 10 ^ m.length ≤ 10 ^ (max l.length m.length) := Nat.pow_le_pow_right (by decide) (by omega)
 have h5 : 10 ^ (max l.length m.length + 1) = 10 ^ (max l.length m.length) * 10 := Nat.pow_succ _ _
 exact ⟨decs (max l.length m.length + 1) (Ten.val l + Ten.val m), jZ _ _, vq _ _, vp _ _ (by omega)⟩
theorem VI {vo vl vm p a b c d c' : Nat} (h : vo + p * c = vl + vm) (hd : d + 10 * c' = a + b + c) : vo + p * d + p * 10 * c' = vl + p * a + (vm + p * b) := by
 have := congrArg (p * ·) hd
 simp only [Nat.mul_add] at this
 rw [Nat.mul_assoc]
 omega
def Jy (p : List Nat × List Nat) (r : List Nat) : Prop := r.length = p.1.length + p.2.length ∧ Ten.dig r ∧ Ten.val r = Ten.val p.1 * Ten.val p.2
theorem Xr {l m : List Nat} (hl : Ten.dig l) (hm : Ten.dig m) : Ten.val l * Ten.val m < 10 ^ (l.length + m.length) := by
 have h1 := Ten.z9 hl
 have h2 := Ten.z9 hm
 have hB : Ten.B = 10 := rfl
 rw [hB] at h1 h2
 rw [Nat.pow_add]
 exact Nat.mul_lt_mul_of_lt_of_lt h1 h2
theorem U6 {l m : List Nat} (hl : Ten.dig l) (hm : Ten.dig m) : ∃ r, Jy (l, m) r :=
 ⟨decs (l.length + m.length) (Ten.val l * Ten.val m), jZ _ _, vq _ _, vp _ _ (Xr hl hm)⟩
theorem Uk {o : List Nat} {i j V a vt b : Nat} (hp : i + j < o.length) (h : Ten.val o = V + 10 ^ i * (a * vt)) : Ten.val (o.set (i + j) (o.getD (i + j) 0 + a * b)) = V + 10 ^ i * (a * (vt + 10 ^ j * b)) := by
 have hs := Ten.wZ o (i + j) (o.getD (i + j) 0 + a * b) hp
 have hB : Ten.B = 10 := rfl
 rw [hB, Nat.mul_add, Nat.pow_add] at hs
 have e : 10 ^ i * (a * (vt + 10 ^ j * b)) = 10 ^ i * (a * vt) + 10 ^ i * 10 ^ j * (a * b) := by
  rw [Nat.mul_add, Nat.mul_add]
  congr 1
  rw [Nat.mul_assoc, Nat.mul_left_comm a]
 rw [e]
 omega
theorem V8 {o : List Nat} {i : Nat} (hi : i + 1 < o.length) : Ten.val ((o.set (i + 1) (o.getD (i + 1) 0 + o.getD i 0 / 10)).set i (o.getD i 0 % 10)) = Ten.val o := by
 have h1 := Ten.wZ o (i + 1) (o.getD (i + 1) 0 + o.getD i 0 / 10) hi
 have h2 := Ten.wZ (o.set (i + 1) (o.getD (i + 1) 0 + o.getD i 0 / 10)) i (o.getD i 0 % 10) (by simp; omega)
 have e : (o.set (i + 1) (o.getD (i + 1) 0 + o.getD i 0 / 10)).getD i 0 = o.getD i 0 := by
  simp only [List.getD]
  rw [List.getElem?_set_ne (by omega)]
 have hB : Ten.B = 10 := rfl
 rw [e, hB] at h2
 rw [hB, Nat.mul_add, Nat.pow_succ] at h1
 have hdm := Nat.div_add_mod (o.getD i 0) 10
 have : 10 ^ i * o.getD i 0 = 10 ^ i * 10 * (o.getD i 0 / 10) + 10 ^ i * (o.getD i 0 % 10) := by
  rw [Nat.mul_assoc, ← Nat.mul_add, hdm]
 omega
theorem jW {o : List Nat} {i p x : Nat} (hi : i < o.length) : (o.set i x).getD p 0 = if p = i then x else o.getD p 0 := by
 simp only [List.getD]
 by_cases h : p = i
 ·subst h; simp [hi]
 ·rw [List.getElem?_set_ne (by omega), if_neg h]
end Go.Nov
end

/- Cutting a piece of code at a place that is not a loop's head. -/
section
namespace Go.Sx
variable [Stat]
section
variable {O : Nat → Prop} {pin : Nat} {w0 : World} {σ0 : List SE} {P : Program} {fn : Func}
def fstC : Code → Code
 | .seq a _ => a
 | c => c
def sndC : Code → Code
 | .seq _ b => b
 | c => c
def blkC : Code → Code
 | .block _ c => c
 | c => c
def blkI : Code → Nat
 | .block i _ => i
 | _ => 0
theorem zb.cut {M : Option Nat} {ι : Type} {Hs : Nat → KV → Heap → Prop} {R : List AV → Heap → Prop} {k : List Item} {c : Code} {st : St} (S : ι → KV) (H : ι → Heap) (dk : Nat)
  (h1 : zR M P fn O pin w0 σ0 (fun d kv h => if d = dk then ∃ x, LeK pin fn.ntmps kv h (S x) (H x) else Hs d kv h) R (.code c :: .inLoop :: k) st) (hd : jP k = dk)
  (h2 : ∀ x, zR M P fn O pin w0 σ0 Hs R k (mk fn.ntmps (S x) (H x))) : zR M P fn O pin w0 σ0 Hs R (.code c :: k) st := by
 subst hd
 intro w σ a hm
 have := h1 w σ a hm
 simp only [wpK] at this ⊢
 refine wpIn_mono this fun e a' w' he => ?_
 cases e with
 | normal =>
  simp only [wpK] at he
  obtain ⟨st', σ', ⟨kv, h, hh, rfl⟩, hm'⟩ := he
  rw [if_pos trivial] at hh
  obtain ⟨x, hle⟩ := hh
  exact h2 x w' _ a' (hle.le.mod hm')
 | _ =>
  simp only [wpK] at he
  refine qV (fun d a w hd hh => ?_) he
  obtain ⟨st', σ', ⟨kv, h, hh, rfl⟩, hm'⟩ := hh
  rw [if_neg (by omega)] at hh
  exact ⟨_, σ', ⟨kv, h, hh, rfl⟩, hm'⟩
theorem zb.seq {M : Option Nat} {Hs : Nat → KV → Heap → Prop} {R : List AV → Heap → Prop} {k : List Item} {c : Code} {st : St} (hc : c = .seq (fstC c) (sndC c))
  (h : zR M P fn O pin w0 σ0 Hs R (.code (fstC c) :: .code (sndC c) :: k) st) : zR M P fn O pin w0 σ0 Hs R (.code c :: k) st := by
 rw [hc]
 generalize fstC c = a at h
 generalize sndC c = b at h
 intro w σ act hm
 have := h w σ act hm
 simp only [wpK] at this ⊢
 refine wpIn_seq (wpIn_mono this fun e a w h => ?_)
 cases e <;> exact h
theorem zb.block {M : Option Nat} {Hs : Nat → KV → Heap → Prop} {R : List AV → Heap → Prop} {k : List Item} {c : Code} {st : St} (hc : c = .block (blkI c) (blkC c))
  (h : zR M P fn O pin w0 σ0 Hs R (.code (blkC c) :: .inBlock (blkI c) :: k) st) : zR M P fn O pin w0 σ0 Hs R (.code c :: k) st := by
 rw [hc]
 generalize blkC c = a at h
 generalize blkI c = i at h
 intro w σ act hm
 have := h w σ act hm
 simp only [wpK] at this ⊢
 refine wpIn_block (wpIn_mono this fun e a w h => ?_)
 cases e <;> exact h
end
end Go.Sx
end

/- The reference's integers: sums and products of digits. -/
section
set_option maxRecDepth 100000
open Go Go.Sx Go.Proofs Go.Nov
namespace Go.Proofs.Try
attribute [local simp] eqKV eqA eqA0 eqH eqB eqL eqL0
noncomputable def K103 : List Go.Sx.Item := [.code (Try.f103.body.getD .skip)]
noncomputable def K104 : List Go.Sx.Item := [.code (Try.f104.body.getD .skip)]
def Y1 : Ctr := ctrP true (fun p : List Nat × List Nat => [nat6 p.1, nat6 p.2]) (fun p => Ten.dig p.1 ∧ Ten.dig p.2 ∧ p.1.length < 2 ^ 30 ∧ p.2.length < 2 ^ 30) KF (fun _ r => (nat6 r, []))
def SPp (l m o : List Nat) (c i : Nat) : KV := [(0, nat6 l), (1, nat6 m), (5, .osl 0 1 0 o.length), (6, .int .i64 (c : Int)), (7, .int .i64 (i : Int))]
noncomputable def GPp : Nat → Option Ctr := fun f => if f = 101 then some (atC) else none
theorem Y4 : ∀ g c, GPp g = some c → zd Try.prog g c := okIf zc4 (zq)
theorem UG : zd Try.prog 103 Y1 := by
 refine zg (fn := Try.f103) (c := Try.f103.body.getD .skip) rfl rfl rfl fun p hp O w0 Q hq => ?_
 obtain ⟨l, m⟩ := p
 obtain ⟨hl, hm, hll, hml⟩ := hp
 simp only at hq hl hm hll hml
 refine zb.run hmix Y4 [0, 1, 5, 6, 7] 400 (T := .leaf (.loop (Prod.fst (lps K103 0)) (Prod.snd (lps K103 0)) [(0, .sl l.length 1 (natG .i64 l)), (1, .sl m.length 1 (natG .i64 m)), (5, .nils), (6, .int .i64 0), (7, .int .i64 0)] [])) (by kernel_rfl) ?_
 simp only [Tree.holds, zc, inR, lo, hi, Int.toNat_natCast]
 refine zb.bear 5 1 (natG .i64 []) rfl (by decide) (by kernel_rfl) ?_
 refine zb.loop (ι := {z : List Nat × Nat × Nat // z.1.length = z.2.2 ∧ z.2.2 ≤ max l.length m.length + 1 ∧ Ten.dig z.1 ∧ z.2.1 ≤ 1 ∧ Ten.val z.1 + 10 ^ z.2.2 * z.2.1 = Ten.val (l.take z.2.2) + Ten.val (m.take z.2.2)}) (fun z => SPp l m z.1.1 z.1.2.1 z.1.2.2) (fun z => [.arr z.1.1.length 1 (natG .i64 z.1.1)]) (fun z => max l.length m.length + 1 - z.1.2.2) ⟨([], 0, 0), rfl, Nat.zero_le _, by simp [Ten.dig], Nat.zero_le _, by simp [Ten.val]⟩ 0 ?_ ?_ (by kernel_rfl)
 ·refine ⟨by simp [SPp, natS, za, xf], by simp [za], by kernel_rfl, Nat.zero_le _⟩
 ·rintro ⟨⟨o, b, i⟩, hol, hil, hod, hb, hv⟩
  refine zb.run hmix Y4 [0, 1, 5, 6, 7] 400 (T := .ite (decide ((↑i : Int) ≤ max (↑l.length : Int) (↑m.length : Int))) (.ex (fun (x : List Nat × Nat) => eqL [AV.sl l.length 1 (natG .i64 l), AV.int .i64 i] [AV.sl x.1.length 1 (natG .i64 x.1), AV.int .i64 x.2] ∧ True) fun n => .all (fun (r : Nat) => r = List.getD n.1 n.2 0) fun n => .ex (fun (x : List Nat × Nat) => eqL [AV.sl m.length 1 (natG .i64 m), AV.int .i64 i] [AV.sl x.1.length 1 (natG .i64 x.1), AV.int .i64 x.2] ∧ True) fun n_1 => .all (fun (r : Nat) => r = List.getD n_1.1 n_1.2 0) fun n_2 => .side (inR .i64 ((↑n : Int) + n_2)) (.side (inR .i64 ((↑n : Int) + n_2 + (↑b : Int))) (.side ((10 : Int) ≠ 0) (.side (0 = 0 ∧ o.length ≤ o.length ∧ (o.length + 1) * 8 ≤ 140737488355328) (.side ((10 : Int) ≠ 0 ∧ inR .i64 (Int.tdiv ((↑n : Int) + n_2 + (↑b : Int)) (10 : Int))) (.side (inR .i64 ((↑i : Int) + (1 : Int))) (.leaf (.back 0 [(0, .sl l.length 1 (natG .i64 l)), (1, .sl m.length 1 (natG .i64 m)), (5, .osl 0 1 0 (o.length + 1)), (6, .int .i64 (Int.tdiv ((↑n : Int) + n_2 + (↑b : Int)) (10 : Int))), (7, .int .i64 ((↑i : Int) + (1 : Int)))] [.arr (o.length + 1) 1 (appG o.length (natG .i64 o) (zf (ze 1 [.int .i64 (Int.tmod ((↑n : Int) + n_2 + (↑b : Int)) (10 : Int))]) 0)), .arr 1 1 (ze 1 [.int .i64 (Int.tmod ((↑n : Int) + n_2 + (↑b : Int)) (10 : Int))])])))))))) (.leaf (.ret [.osl 0 1 0 o.length] [.arr o.length 1 (natG .i64 o)]))) (by kernel_rfl) ?_
  simp only [Tree.holds, zc, inR, lo, hi, Int.toNat_natCast]
  simp only at hol hil hod hb hv
  refine ⟨fun hlt => ?_, fun hge => ?_⟩
  ·have hlt : i ≤ max l.length m.length := by have := of_decide_eq_true hlt; omega
   refine ⟨(l, i), ⟨by simp [za], trivial⟩, ⟨_, rfl⟩, ?_⟩
   rintro _ rfl
   refine ⟨(m, i), ⟨by simp [za], trivial⟩, ⟨_, rfl⟩, ?_⟩
   rintro _ rfl
   simp only
   have h1 : l.getD i 0 < 10 := Ten.z3 hl i
   have h2 : m.getD i 0 < 10 := Ten.z3 hm i
   have step : ∀ d b', d + 10 * b' = l.getD i 0 + m.getD i 0 + b → Ten.val (o ++ [d]) + 10 ^ (i + 1) * b' = Ten.val (l.take (i + 1)) + Ten.val (m.take (i + 1)) := by
    intro d b' h
    rw [Ten.zz, Ten.zj, Ten.zj, hol, Nat.pow_succ]
    have := VI hv h
    simpa [Ten.val] using this
   obtain ⟨x, hx⟩ : ∃ x, l.getD i 0 = x := ⟨_, rfl⟩
   obtain ⟨y, hy⟩ : ∃ y, m.getD i 0 = y := ⟨_, rfl⟩
   simp only [hx, hy] at h1 h2 step ⊢
   obtain ⟨v, hvv⟩ : ∃ v, x + y + b = v := ⟨_, rfl⟩
   have ev : (x : Int) + (y : Int) + (b : Int) = (v : Int) := by clear step; omega
   have ed : ((v : Int)).tdiv 10 = ((v / 10 : Nat) : Int) := rfl
   have em : ((v : Int)).tmod 10 = ((v % 10 : Nat) : Int) := rfl
   have hv2 : v / 10 ≤ 1 ∧ v % 10 < 10 ∧ v % 10 + 10 * (v / 10) = v := ⟨by clear step; omega, Nat.mod_lt _ (by decide), Nat.mod_add_div _ _⟩
   obtain ⟨g1, g2, g3⟩ := hv2
   rw [ev, ed, em]
   have hstep := step (v % 10) (v / 10) (by rw [g3, hvv])
   clear step
   generalize v / 10 = q at *
   generalize v % 10 = r at *
   refine ⟨by omega, fun _ => ⟨by omega, fun _ => ⟨by decide, fun _ => ⟨⟨trivial, Nat.le_refl _, by omega⟩, fun _ => ⟨⟨by decide, by omega, by omega⟩, fun _ => ⟨by omega, fun _ => ?_⟩⟩⟩⟩⟩⟩
   rw [if_pos trivial]
   refine ⟨⟨(o ++ [r], q, i + 1), by simp [hol], by simp only; omega, Ten.zQ.2 ⟨hod, by simp only [Ten.dig, List.mem_singleton]; rintro _ rfl; exact g2⟩, g1, hstep⟩, by show max l.length m.length + 1 - (i + 1) < _; omega, by simp [SPp, natS, za], qw rfl, by kernel_rfl, Nat.zero_le _⟩
  ·have hge : i = max l.length m.length + 1 := by have := of_decide_eq_false hge; omega
   exact RetR.nats (hq o ⟨by rw [hol, hge], hod, za6 hl hm hge hv⟩) rfl
def QX : Ctr := ctrP true (fun p : List Nat × List Nat => [nat6 p.1, nat6 p.2]) (fun p => Ten.dig p.1 ∧ Ten.dig p.2 ∧ 0 < p.1.length ∧ 0 < p.2.length ∧ p.1.length < 2 ^ 30 ∧ p.2.length < 2 ^ 30) Jy (fun _ r => (nat6 r, []))
def STm (l m o : List Nat) (i : Nat) : KV := [(0, nat6 l), (1, nat6 m), (5, .osl 0 1 0 o.length), (6, .int .i64 (i : Int)), (7, .undef), (8, .undef)]
def STm2 (l m o : List Nat) (i j : Nat) : KV := [(0, nat6 l), (1, nat6 m), (5, .osl 0 1 0 o.length), (6, .int .i64 (i : Int)), (7, .int .i64 (j : Int)), (8, .undef)]
def STm3 (o : List Nat) (i : Nat) : KV := [(0, .undef), (1, .undef), (5, .osl 0 1 0 o.length), (6, .undef), (7, .undef), (8, .int .i64 (i : Int))]
theorem Qj {o : List Nat} {i : Nat} {v : Int} {x : Nat} (hv : v = x) (hi : i < o.length) : eqG o.length 1 (updG (natG .i64 o) i 0 [.int .i64 v]) (natG .i64 (o.set i x)) := by
 have := jN (k := .i64) (l := o) (v := v) (by omega) hi
 subst hv
 simpa using this
theorem JV {O : Nat → Prop} {w0 : World} {Q : AV × Heap → Prop} {Hs : Nat → KV → Heap → Prop} (l m o0 : List Nat) (hl : Ten.dig l) (hm : Ten.dig m) (hll : 0 < l.length) (hml : 0 < m.length) (hl2 : l.length < 2 ^ 30) (hm2 : m.length < 2 ^ 30) (hlen : o0.length = l.length + m.length) (hv : Ten.val o0 = Ten.val l * Ten.val m) (hb : ∀ p, o0.getD p 0 ≤ 81 * 2 ^ 30)
  (hq : ∀ r, Jy (l, m) r → Q (nat6 r, [])) (kv : KV) (h : Heap) (hle : LeK 0 Try.f104.ntmps kv h (STm3 o0 0) [.arr o0.length 1 (natG .i64 o0)]) :
  zb Try.prog Try.f104 O 0 w0 [] Hs (RetR QX 0 Q) (.code (.loop (lps (inside K104 0) 1).1) :: (lps (inside K104 0) 1).2) (mk Try.f104.ntmps kv h) := by
 refine zb.loop (ι := {z : List Nat × Nat // z.1.length = l.length + m.length ∧ z.2 < l.length + m.length ∧ Ten.val z.1 = Ten.val l * Ten.val m ∧ (∀ p, p < z.2 → z.1.getD p 0 < 10) ∧ (∀ p, z.2 < p → z.1.getD p 0 ≤ 81 * 2 ^ 30) ∧ z.1.getD z.2 0 ≤ 2 * (81 * 2 ^ 30)}) (fun z => STm3 z.1.1 z.1.2) (fun z => [.arr z.1.1.length 1 (natG .i64 z.1.1)]) (fun z => l.length + m.length - z.1.2) ⟨(o0, 0), hlen, by simp only; omega, hv, fun p hp => by simp at hp, fun p _ => hb p, by have := hb 0; simp only; omega⟩ 0 hle ?_ (by kernel_rfl)
 rintro ⟨⟨o, i⟩, hol, hil, hov, h10, hM, h2M⟩
 simp only at hol hil hov h10 hM h2M
 by_cases hlt : i + 1 < o.length
 ·refine zb.seq (by kernel_rfl) (zb.cut (ι := Unit) (fun _ => STm3 o i) (fun _ => [.arr o.length 1 (natG .i64 o)]) 1 ?_ (by kernel_rfl) fun _ => ?_)
  ·refine zb.run hmix zy [0, 1, 5, 6, 7, 8] 400 (T := .side (inR .i64 ((↑i : Int) + (1 : Int))) (.ite (decide ((↑i : Int) + (1 : Int) < o.length)) (.leaf (.back 1 [(0, .undef), (1, .undef), (5, .osl 0 1 0 o.length), (6, .undef), (7, .undef), (8, .int .i64 i)] [.arr o.length 1 (natG .i64 o)])) (.leaf (.ret [.osl 0 1 0 o.length] [.arr o.length 1 (natG .i64 o)])))) (by kernel_rfl) ?_
   simp only [Tree.holds, zc, inR, lo, hi, Int.toNat_natCast]
   refine ⟨by omega, fun _ => ⟨fun _ => ?_, fun hno => absurd (of_decide_eq_false hno) (by omega)⟩⟩
   rw [if_pos trivial]
   exact ⟨(), by simp [STm3], by simp [za], by kernel_rfl, Nat.zero_le _⟩
  have hx : o.getD i 0 / 10 ≤ o.getD i 0 := Nat.div_le_self _ _
  have hnext := hM (i + 1) (by omega)
  have c1 : ((i : Int) + 1) = ((i + 1 : Nat) : Int) := by omega
  have hl1 : (o.set (i + 1) (o.getD (i + 1) 0 + o.getD i 0 / 10)).length = o.length := by simp
  refine zb.seq (by kernel_rfl) (zb.block (by kernel_rfl) (zb.seq (by kernel_rfl) (zb.cut (ι := Unit) (fun _ => STm3 (o.set (i + 1) (o.getD (i + 1) 0 + o.getD i 0 / 10)) i) (fun _ => [.arr (o.set (i + 1) (o.getD (i + 1) 0 + o.getD i 0 / 10)).length 1 (natG .i64 (o.set (i + 1) (o.getD (i + 1) 0 + o.getD i 0 / 10)))]) 1 ?_ (by kernel_rfl) fun _ => ?_)))
  ·refine zb.run hmix zy [0, 1, 5, 6, 7, 8] 400 (T := .side (inR .i64 ((↑i : Int) + (1 : Int))) (.side (inR .i64 ((↑i : Int) + (1 : Int))) (.side ((0 : Int) ≤ i + (1 : Int) ∧ (↑i : Int) + (1 : Int) < o.length) (.side ((0 : Int) ≤ i ∧ (↑i : Int) < o.length) (.side ((10 : Int) ≠ 0 ∧ inR .i64 (Int.tdiv (↑(List.getD o (0 + Int.toNat (↑i : Int)) 0) : Int) (10 : Int))) (.side (inR .i64 ((↑(List.getD o (0 + Int.toNat ((↑i : Int) + (1 : Int))) 0) : Int) + Int.tdiv (↑(List.getD o (0 + Int.toNat (↑i : Int)) 0) : Int) (10 : Int))) (.side ((0 : Int) ≤ i + (1 : Int) ∧ (↑i : Int) + (1 : Int) < o.length) (.leaf (.back 1 [(0, .undef), (1, .undef), (5, .osl 0 1 0 o.length), (6, .undef), (7, .undef), (8, .int .i64 i)] [.arr o.length 1 (updG (natG .i64 o) (0 + Int.toNat ((↑i : Int) + (1 : Int))) 0 [.int .i64 ((↑(List.getD o (0 + Int.toNat ((↑i : Int) + (1 : Int))) 0) : Int) + Int.tdiv (↑(List.getD o (0 + Int.toNat (↑i : Int)) 0) : Int) (10 : Int))])]))))))))) (by kernel_rfl) ?_
   simp only [Tree.holds, zc, inR, lo, hi, c1, Int.toNat_natCast, Nat.zero_add]
   have ed : ((o.getD i 0 : Nat) : Int).tdiv 10 = ((o.getD i 0 / 10 : Nat) : Int) := rfl
   rw [ed]
   generalize ho1 : o.getD (i + 1) 0 = x1 at *
   generalize ho0 : o.getD i 0 / 10 = x0 at *
   iterate 7 refine ⟨by omega, fun _ => ?_⟩
   rw [if_pos trivial]
   refine ⟨(), by simp [STm3], ⟨⟨by simp, rfl, Qj (by omega) hlt⟩, trivial⟩, by kernel_rfl, Nat.zero_le _⟩
  obtain ⟨o1, ho1⟩ : ∃ o1, o.set (i + 1) (o.getD (i + 1) 0 + o.getD i 0 / 10) = o1 := ⟨_, rfl⟩
  have hcar := V8 hlt
  have g0 : o1.getD i 0 = o.getD i 0 := by rw [← ho1, jW hlt, if_neg (by omega)]
  have g1 : o1.getD (i + 1) 0 = o.getD (i + 1) 0 + o.getD i 0 / 10 := by rw [← ho1, jW hlt, if_pos rfl]
  have gn : ∀ p, p ≠ i + 1 → o1.getD p 0 = o.getD p 0 := fun p hp => by rw [← ho1, jW hlt, if_neg hp]
  have hl2' : o1.length = o.length := by rw [← ho1]; simp
  rw [ho1] at hcar ⊢
  rw [← g0] at hcar
  refine zb.run hmix zy [0, 1, 5, 6, 7, 8] 400 (T := .side ((0 : Int) ≤ i ∧ (↑i : Int) < o1.length) (.side ((10 : Int) ≠ 0) (.side ((0 : Int) ≤ i ∧ (↑i : Int) < o1.length) (.side (inR .i64 ((↑i : Int) + (1 : Int))) (.leaf (.back 0 [(0, .undef), (1, .undef), (5, .osl 0 1 0 o1.length), (6, .undef), (7, .undef), (8, .int .i64 ((↑i : Int) + (1 : Int)))] [.arr o1.length 1 (updG (natG .i64 o1) (0 + Int.toNat (↑i : Int)) 0 [.int .i64 (Int.tmod (↑(List.getD o1 (0 + Int.toNat (↑i : Int)) 0) : Int) (10 : Int))])])))))) (by kernel_rfl) ?_
  simp only [Tree.holds, zc, inR, lo, hi, c1, Int.toNat_natCast, Nat.zero_add]
  have em : ((o1.getD i 0 : Nat) : Int).tmod 10 = ((o1.getD i 0 % 10 : Nat) : Int) := rfl
  rw [em]
  have hm10 : o1.getD i 0 % 10 < 10 := Nat.mod_lt _ (by decide)
  iterate 4 refine ⟨by first | omega | decide, fun _ => ?_⟩
  rw [if_pos trivial]
  refine ⟨⟨(o1.set i (o1.getD i 0 % 10), i + 1), by simp [hl2', hol], by omega, by rw [hcar]; exact hov, fun p hp => ?_, fun p hp => ?_, ?_⟩, by show _ - (i + 1) < _ - i; omega, by simp [STm3], ⟨⟨by simp, rfl, Qj rfl (by omega)⟩, trivial⟩, by kernel_rfl, Nat.zero_le _⟩
  ·show (o1.set i _).getD p 0 < 10
   rw [jW (by omega)]
   split
   ·exact hm10
   ·rw [gn p (by have : p < i + 1 := hp; omega)]; exact h10 p (by have : p < i + 1 := hp; omega)
  ·have hp : i + 1 < p := hp
   show (o1.set i _).getD p 0 ≤ _
   rw [jW (by omega), if_neg (by omega), gn p (by omega)]
   exact hM p (by omega)
  ·show (o1.set i _).getD (i + 1) 0 ≤ _
   rw [jW (by omega), if_neg (by omega), g1]
   have : o.getD i 0 / 10 ≤ 2 * (81 * 2 ^ 30) / 10 := Nat.div_le_div_right h2M
   omega
 ·refine zb.seq (by kernel_rfl) (zb.cut (ι := {x : Unit // False}) (fun _ => []) (fun _ => []) 1 ?_ (by kernel_rfl) fun x => x.2.elim)
  ·refine zb.run hmix zy [0, 1, 5, 6, 7, 8] 400 (T := .side (inR .i64 ((↑i : Int) + (1 : Int))) (.ite (decide ((↑i : Int) + (1 : Int) < o.length)) (.leaf (.back 1 [(0, .undef), (1, .undef), (5, .osl 0 1 0 o.length), (6, .undef), (7, .undef), (8, .int .i64 i)] [.arr o.length 1 (natG .i64 o)])) (.leaf (.ret [.osl 0 1 0 o.length] [.arr o.length 1 (natG .i64 o)])))) (by kernel_rfl) ?_
   simp only [Tree.holds, zc, inR, lo, hi, Int.toNat_natCast]
   refine ⟨by omega, fun _ => ⟨fun hno => absurd (of_decide_eq_true hno) (by omega), fun _ => ?_⟩⟩
   refine RetR.nats (hq o ⟨hol, za2 (n := i) (by omega) h10 ?_, hov⟩) rfl
   rw [hov]
   have := Xr hl hm
   rw [show i + 1 = l.length + m.length by omega]
   exact this
theorem XO {o : List Nat} {v : Int} {i d i' : Nat} (hv : v = d) (hi : i < o.length) (hi' : i' = i) : eqH [.arr o.length 1 (updG (natG .i64 o) i' 0 [.int .i64 v])] [.arr (o.set i d).length 1 (natG .i64 (o.set i d))] := heap_set hv hi hi'
theorem XV : zd Try.prog 104 QX := by
 refine zg (fn := Try.f104) (c := Try.f104.body.getD .skip) rfl rfl rfl fun p hp O w0 Q hq => ?_
 obtain ⟨l, m⟩ := p
 obtain ⟨hl, hm, hll, hml, hl2, hm2⟩ := hp
 simp only at hq hl hm hll hml hl2 hm2
 refine zb.run hmix zy [0, 1, 5, 6, 7, 8] 400 (T := .side (inR .i64 ((↑l.length : Int) + m.length)) (.side ((0 : Int) ≤ l.length + (↑m.length : Int) ∧ (↑l.length : Int) + m.length ≤ (↑l.length : Int) + m.length ∧ inR .i64 ((↑l.length : Int) + m.length) ∧ Int.toNat ((↑l.length : Int) + m.length) * 8 ≤ 140737488355328) (.leaf (.loop (Prod.fst (lps K104 0)) (Prod.snd (lps K104 0)) [(0, .sl l.length 1 (natG .i64 l)), (1, .sl m.length 1 (natG .i64 m)), (5, .osl 0 1 0 (Int.toNat ((↑l.length : Int) + m.length))), (6, .int .i64 0), (7, .undef), (8, .undef)] [.arr (Int.toNat ((↑l.length : Int) + m.length)) 1 (js [.int .i64 0])])))) (by kernel_rfl) ?_
 have es : ((l.length : Int) + (m.length : Int)) = ((l.length + m.length : Nat) : Int) := by omega
 simp only [Tree.holds, zc, inR, lo, hi, es, Int.toNat_natCast]
 refine ⟨by omega, fun _ => ⟨by omega, fun _ => ?_⟩⟩
 have hrep : ∀ p, (List.replicate (l.length + m.length) 0).getD p 0 = 0 := fun p => by
  simp only [List.getD, List.getElem?_replicate]
  split <;> rfl
 refine zb.loop (ι := {z : List Nat × Nat // z.1.length = l.length + m.length ∧ z.2 ≤ l.length ∧ Ten.val z.1 = Ten.val (l.take z.2) * Ten.val m ∧ ∀ p, z.1.getD p 0 ≤ 81 * z.2}) (fun z => STm l m z.1.1 z.1.2) (fun z => [.arr z.1.1.length 1 (natG .i64 z.1.1)]) (fun z => l.length - z.1.2) ⟨(List.replicate (l.length + m.length) 0, 0), by simp, Nat.zero_le _, by simp [Ten.qm, Ten.val], fun p => by simp only [hrep]; exact Nat.zero_le _⟩ 0 ?_ ?_ (by kernel_rfl)
 ·exact ⟨by simp [STm, natS, za], by simp [kS], by kernel_rfl, Nat.zero_le _⟩
 rintro ⟨⟨o, i⟩, hol, hil, hov, hob⟩
 simp only at hol hil hov hob
 refine zb.run hmix zy [0, 1, 5, 6, 7, 8] 400 (T := .ite (decide ((↑i : Int) < l.length)) (.leaf (.loop (Prod.fst (lps (inside K104 0) 0)) (Prod.snd (lps (inside K104 0) 0)) [(0, .sl l.length 1 (natG .i64 l)), (1, .sl m.length 1 (natG .i64 m)), (5, .osl 0 1 0 o.length), (6, .int .i64 i), (7, .int .i64 0), (8, .undef)] [.arr o.length 1 (natG .i64 o)])) (.leaf (.loop (Prod.fst (lps (inside K104 0) 1)) (Prod.snd (lps (inside K104 0) 1)) [(0, .sl l.length 1 (natG .i64 l)), (1, .sl m.length 1 (natG .i64 m)), (5, .osl 0 1 0 o.length), (6, .int .i64 i), (7, .undef), (8, .int .i64 0)] [.arr o.length 1 (natG .i64 o)]))) (by kernel_rfl) ?_
 simp only [Tree.holds, zc, inR, lo, hi, Int.toNat_natCast]
 refine ⟨fun hlt => ?_, fun hge => ?_⟩
 ·have hlt : i < l.length := by have := of_decide_eq_true hlt; omega
  refine zb.loop (ι := {z : List Nat × Nat // z.1.length = l.length + m.length ∧ z.2 ≤ m.length ∧ Ten.val z.1 = Ten.val (l.take i) * Ten.val m + 10 ^ i * (l.getD i 0 * Ten.val (m.take z.2)) ∧ (∀ p, z.1.getD p 0 ≤ 81 * i + 81) ∧ ∀ p, i + z.2 ≤ p → z.1.getD p 0 ≤ 81 * i}) (fun z => STm2 l m z.1.1 i z.1.2) (fun z => [.arr z.1.1.length 1 (natG .i64 z.1.1)]) (fun z => m.length - z.1.2) ⟨(o, 0), hol, Nat.zero_le _, by simp [hov, Ten.val], fun p => by have := hob p; simp only; omega, fun p _ => hob p⟩ 1 ?_ ?_ (by kernel_rfl)
  ·exact ⟨by simp [STm2, natS, za], by simp [za], by kernel_rfl, Nat.zero_le _⟩
  rintro ⟨⟨o2, j⟩, hol2, hjl, hov2, hob2, hob3⟩
  simp only at hol2 hjl hov2 hob2 hob3
  have e1 : ((i : Int) + (j : Int)) = ((i + j : Nat) : Int) := by omega
  refine zb.run hmix zy [0, 1, 5, 6, 7, 8] 400 (T := .ite (decide ((↑j : Int) < m.length)) (.side (inR .i64 ((↑i : Int) + j)) (.side (inR .i64 ((↑i : Int) + j)) (.side ((0 : Int) ≤ i + (↑j : Int) ∧ (↑i : Int) + j < (↑o2.length : Int)) (.side ((0 : Int) ≤ i ∧ (↑i : Int) < l.length) (.side ((0 : Int) ≤ j ∧ (↑j : Int) < m.length) (.side (inR .i64 ((↑(List.getD l (Int.toNat (↑i : Int)) 0) : Int) * (↑(List.getD m (Int.toNat (↑j : Int)) 0) : Int))) (.side (inR .i64 ((↑(List.getD o2 (0 + Int.toNat ((↑i : Int) + j)) 0) : Int) + (↑(List.getD l (Int.toNat (↑i : Int)) 0) : Int) * (↑(List.getD m (Int.toNat (↑j : Int)) 0) : Int))) (.side ((0 : Int) ≤ i + (↑j : Int) ∧ (↑i : Int) + j < (↑o2.length : Int)) (.side (inR .i64 ((↑j : Int) + (1 : Int))) (.leaf (.back 1 [(0, .sl l.length 1 (natG .i64 l)), (1, .sl m.length 1 (natG .i64 m)), (5, .osl 0 1 0 o2.length), (6, .int .i64 i), (7, .int .i64 ((↑j : Int) + (1 : Int))), (8, .undef)] [.arr o2.length 1 (updG (natG .i64 o2) (0 + Int.toNat ((↑i : Int) + j)) 0 [.int .i64 ((↑(List.getD o2 (0 + Int.toNat ((↑i : Int) + j)) 0) : Int) + (↑(List.getD l (Int.toNat (↑i : Int)) 0) : Int) * (↑(List.getD m (Int.toNat (↑j : Int)) 0) : Int))])]))))))))))) (.side (inR .i64 ((↑i : Int) + (1 : Int))) (.leaf (.back 0 [(0, .sl l.length 1 (natG .i64 l)), (1, .sl m.length 1 (natG .i64 m)), (5, .osl 0 1 0 o2.length), (6, .int .i64 ((↑i : Int) + (1 : Int))), (7, .int .i64 j), (8, .undef)] [.arr o2.length 1 (natG .i64 o2)])))) (by kernel_rfl) ?_
  simp only [Tree.holds, zc, inR, lo, hi, e1, Int.toNat_natCast, Nat.zero_add]
  have hx : l.getD i 0 < 10 := Ten.z3 hl i
  have hy : m.getD j 0 < 10 := Ten.z3 hm j
  have hxy : l.getD i 0 * m.getD j 0 ≤ 9 * 9 := Nat.mul_le_mul (by omega) (by omega)
  have e3 : (((l.getD i 0 : Nat) : Int)) * ((m.getD j 0 : Nat) : Int) = ((l.getD i 0 * m.getD j 0 : Nat) : Int) := by simp
  rw [e3]
  have hob3' := hob3 (i + j) (Nat.le_refl _)
  refine ⟨fun hj => ?_, fun hj => ?_⟩
  ·have hj : j < m.length := by have := of_decide_eq_true hj; omega
   have hp : i + j < o2.length := by omega
   have hcell := Uk (o := o2) (i := i) (j := j) (V := Ten.val (l.take i) * Ten.val m) (a := l.getD i 0) (vt := Ten.val (m.take j)) (b := m.getD j 0) hp hov2
   have htk := Ten.zj m j
   have hB : Ten.B = 10 := rfl
   rw [hB] at htk
   rw [← htk] at hcell
   generalize hxyv : l.getD i 0 * m.getD j 0 = xy at *
   iterate 9 refine ⟨by omega, fun _ => ?_⟩
   rw [if_pos trivial]
   refine ⟨⟨(o2.set (i + j) (o2.getD (i + j) 0 + xy), j + 1), by simpa using hol2, hj, hcell, fun p => ?_, fun p hp2 => ?_⟩, by show _ - (j + 1) < _ - j; omega, by simp [STm2, natS, za], XO (by omega) hp rfl, by kernel_rfl, Nat.zero_le _⟩
   ·show (o2.set _ _).getD p 0 ≤ _
    rw [jW hp]
    split
    ·omega
    ·exact hob2 p
   ·have hp2 : i + (j + 1) ≤ p := hp2
    show (o2.set _ _).getD p 0 ≤ _
    rw [jW hp, if_neg (by omega)]
    exact hob3 p (by omega)
  ·have hj : j = m.length := by have := of_decide_eq_false hj; omega
   subst hj
   refine ⟨by omega, fun _ => ?_⟩
   rw [if_neg (by decide), if_pos trivial]
   refine ⟨⟨(o2, i + 1), hol2, hlt, ?_, fun p => by have := hob2 p; simp only; omega⟩, by show _ - (i + 1) < _ - i; omega, by simp [STm, natS, za], by simp [za], by kernel_rfl, Nat.zero_le _⟩
   show Ten.val o2 = Ten.val (l.take (i + 1)) * Ten.val m
   rw [List.take_length] at hov2
   have htk := Ten.zj l i
   have hB : Ten.B = 10 := rfl
   rw [hB] at htk
   rw [hov2, htk, Nat.add_mul, Nat.mul_assoc]
 ·have hge : i = l.length := by have := of_decide_eq_false hge; omega
  subst hge
  rw [List.take_length] at hov
  exact JV l m o hl hm hll hml hl2 hm2 hol hov (fun p => by have := hob p; omega) hq _ _ ⟨by simp [STm3], by simp [za], by kernel_rfl, Nat.zero_le _⟩
end Go.Proofs.Try
end

/- The reference's integers: sums, products, quotients, comparisons. -/
section
set_option maxRecDepth 100000
open Go Go.Sx Go.Proofs Go.Nov
namespace Go.Proofs.Try
attribute [local simp] eqKV eqA eqA0 eqH eqB eqL eqL0
theorem K6 (neg : Bool) (x : Nat) : errI (qu neg x) = (wr neg x).2 ∧ ((wr neg x).2 = 0 → qu neg x = (wr neg x).1) := by
 unfold qu wr
 by_cases h0 : x = 0
 ·rw [if_pos h0, if_pos h0]; exact ⟨rfl, fun _ => rfl⟩
 ·rw [if_neg h0, if_neg h0]
  have e : errI (sgn neg (txt x)) = if 1000 < (dec x).length then 14 else 0 := by
   unfold errI
   rw [QO h0]
   simp only [JU h0, if_true]
   rw [kZ h0]
  by_cases h1 : 1000 < (dec x).length
  ·rw [if_pos h1] at e ⊢
   exact ⟨e, fun h => (by cases h)⟩
  ·rw [if_neg h1] at e ⊢
   exact ⟨e, fun _ => rfl⟩
theorem yq {neg : Bool} {x : Nat} (h : room x) : qu neg x = (wr neg x).1 := (K6 neg x).2 (wm h)
theorem zab (neg : Bool) (x : Nat) : (qu neg x).length ≤ 1 + (dec x).length := by
 unfold qu
 by_cases h0 : x = 0
 ·rw [if_pos h0]; simp
 ·rw [if_neg h0]
  have := Xo neg (txt x)
  rw [kZ h0] at this
  omega
def zch : Ctr := ctrP true (fun p : List Nat × Bool => [nat6 p.1, .bool p.2]) (fun p => Ten.dig p.1 ∧ p.1.length < 2 ^ 31) (fun p r => r = wr p.2 (Ten.val p.1)) (fun _ r => (.tup [.str r.1, .int .i64 r.2], []))
noncomputable def GRr : Nat → Option Ctr := fun f => if f = 75 then some (yO) else if f = 91 then some (QW) else none
theorem zdj : ∀ g c, GRr g = some c → zd Try.prog g c := okIf xL (okIf Qx (zq))
theorem zbp : zd Try.prog 102 zch := by
 refine zg (fn := Try.f102) (c := Try.f102.body.getD .skip) rfl rfl rfl fun p hp O w0 Q hq => ?_
 obtain ⟨d, neg⟩ := p
 obtain ⟨hd, hl⟩ := hp
 replace hq := hq _ rfl
 simp only at hd hl hq
 refine zb.run hmix zdj [] 400 (T := .ex (fun (x : List Nat × Bool) => eqL [AV.sl d.length 1 (natG .i64 d), AV.bool neg] [AV.sl x.1.length 1 (natG .i64 x.1), AV.bool x.2] ∧ Ten.dig x.1 ∧ x.1.length < 1099511627776) fun n => .all (fun (r : List UInt8) => r = qu n.2 (Ten.val n.1)) fun n => .ex (fun (x : List UInt8) => eqL [AV.str n] [AV.str x] ∧ x.length < 1099511627776) fun n_1 => .all (fun (r : Int) => r = errI n_1) fun n_2 => .ite (!decide (n_2 = 0)) (.leaf (.ret [.str (Array.toList #[]), .int .i64 14] [])) (.leaf (.ret [.str n, .int .i64 0] []))) (by kernel_rfl) ?_
 simp only [Tree.holds, zc]
 have hlen : (dec (Ten.val d)).length ≤ d.length := vE (by have := Ten.z9 hd; have hB : Ten.B = 10 := rfl; rw [hB] at this; exact this)
 have htl := zab neg (Ten.val d)
 obtain ⟨t1, t2⟩ := K6 neg (Ten.val d)
 refine ⟨(d, neg), ⟨⟨⟨rfl, rfl, za _ _ _⟩, rfl, trivial⟩, hd, by show d.length < _; omega⟩, ⟨_, rfl⟩, ?_⟩
 rintro _ rfl
 refine ⟨qu neg (Ten.val d), ⟨by simp, by omega⟩, ⟨_, rfl⟩, ?_⟩
 intro e he
 rw [t1] at he
 refine ⟨fun h => ?_, fun h => ?_⟩
 ·have h : e ≠ 0 := by simpa using h
  rcases J6 neg (Ten.val d) with g | g
  ·exact absurd (he.trans g) h
  ·rw [g] at hq
   exact RetR.scal hq rfl (by simp [resV])
 ·have h : e = 0 := by simpa using h
  have g : (wr neg (Ten.val d)).2 = 0 := by rw [← he, h]
  have e2 : wr neg (Ten.val d) = (qu neg (Ten.val d), 0) := by rw [t2 g, ← g]
  rw [e2] at hq
  exact RetR.scal hq rfl (by simp [resV])
def zcp : Ctr := ctrP true (fun s : List UInt8 => [.str s]) (fun s => errI s = 0 ∧ s.length < 2 ^ 40) (fun s r => r = (wz (-zI s)).1) (fun _ r => (.str r, []))
noncomputable def GRn : Nat → Option Ctr := fun f => if f = 75 then some (yO) else if f = 58 then some (wX) else none
theorem zd0 : ∀ g c, GRn g = some c → zd Try.prog g c := okIf xL (okIf v8 (zq))
theorem zdh {s : List UInt8} (h : errI s = 0) : (wz (-zI s)).1 = qu (!negI s) (numI s) := by
 rw [yq (qG h), Qk]
 congr 2
 unfold zI
 cases negI s <;> simp
theorem zbr : zd Try.prog 111 zcp := by
 refine zg (fn := Try.f111) (c := Try.f111.body.getD .skip) rfl rfl rfl fun s hp O w0 Q hq => ?_
 obtain ⟨he, hl⟩ := hp
 replace hq := hq _ rfl
 refine zb.run hmix zd0 [] 400 (T := .ex (fun (x : List UInt8) => eqL [AV.str s] [AV.str x] ∧ x.length < 1099511627776) fun n => .all (fun (r : List Nat × Bool × Bool) => r = digR n) fun n => .ex (fun (x : List Nat × Bool) => eqL [AV.sl n.1.length 1 (natG .i64 n.1), AV.bool !Prod.fst n.2] [AV.sl x.1.length 1 (natG .i64 x.1), AV.bool x.2] ∧ Ten.dig x.1 ∧ x.1.length < 1099511627776) fun n => .all (fun (r : List UInt8) => r = qu n.2 (Ten.val n.1)) fun n => .leaf (.ret [.str n] [])) (by kernel_rfl) ?_
 simp only [Tree.holds, zc]
 obtain ⟨a1, a2, a3, a4⟩ := wg he
 rw [zdh he, ← a4] at hq
 refine ⟨s, ⟨by simp, hl⟩, ⟨_, rfl⟩, ?_⟩
 rintro _ rfl
 rw [a1]
 refine ⟨(dg (parse s).2, !(parse s).1), ⟨⟨⟨rfl, rfl, za _ _ _⟩, rfl, trivial⟩, a2, by show (dg (parse s).2).length < _; omega⟩, ⟨_, rfl⟩, ?_⟩
 rintro _ rfl
 exact RetR.scal hq rfl (by simp [resV, negI])
noncomputable def GRa : Nat → Option Ctr := fun f => if f = 72 then some (Kz) else if f = 58 then some (wX) else if f = 103 then some (Y1) else if f = 93 then some (JM) else if f = 92 then some (yi) else if f = 102 then some (zch) else if f = 104 then some (QX) else if f = 73 then some (U5) else if f = 74 then some (Wd) else if f = 75 then some (yO) else none
theorem VA : ∀ g c, GRa g = some c → zd Try.prog g c := okIf QV (okIf v8 (okIf UG (okIf Q6 (okIf xj (okIf zbp (okIf XV (okIf KD (okIf Xg (okIf xL (zq))))))))))
def Yk : Ctr := ctrP true (fun p : List UInt8 × List UInt8 => [.str p.1, .str p.2]) (fun p => p.1.length < 2 ^ 40 ∧ p.2.length < 2 ^ 40) (fun p r => r = addI p.1 p.2) (fun _ r => (.tup [.str r.1, .int .i64 r.2], []))
def YM : Ctr := ctrP true (fun p : List UInt8 × List UInt8 => [.str p.1, .str p.2]) (fun p => p.1.length < 2 ^ 40 ∧ p.2.length < 2 ^ 40) (fun p r => r = mulI p.1 p.2) (fun _ r => (.tup [.str r.1, .int .i64 r.2], []))
def rdmC : Ctr := ctrP true (fun p : List UInt8 × List UInt8 => [.str p.1, .str p.2]) (fun p => p.1.length < 2 ^ 40 ∧ p.2.length < 2 ^ 40) (fun p r => r = dmI p.1 p.2) (fun _ r => (.tup [.str r.1, .str r.2.1, .int .i64 r.2.2], []))
theorem eqL2 (a b : List Nat) : eqL [AV.sl a.length 1 (natG .i64 a), AV.sl b.length 1 (natG .i64 b)] [nat6 a, nat6 b] := ⟨⟨rfl, rfl, za _ _ _⟩, ⟨rfl, rfl, za _ _ _⟩, trivial⟩
theorem eqLb (a : List Nat) (b : Bool) : eqL [AV.sl a.length 1 (natG .i64 a), .bool b] [nat6 a, .bool b] := ⟨⟨rfl, rfl, za _ _ _⟩, rfl, trivial⟩
theorem zb6 : zd Try.prog 96 Yk := by
 refine zg (fn := Try.f96) (c := Try.f96.body.getD .skip) rfl rfl rfl fun p hp O w0 Q hq => ?_
 obtain ⟨s, t⟩ := p
 obtain ⟨hs, ht⟩ := hp
 replace hq := hq _ rfl
 simp only at hs ht hq
 refine zb.run hmix VA [] 400 (T := .ex (fun (x : List UInt8 × List UInt8) => eqL [AV.str s, AV.str t] [AV.str x.1, AV.str x.2] ∧ x.1.length < 1099511627776 ∧ x.2.length < 1099511627776) fun n => .all (fun (r : Int) => r = zm n.1 n.2) fun n => .ite (!decide (n = 0)) (.leaf (.ret [.str (Array.toList #[]), .int .i64 n] [])) (.ex (fun (x : List UInt8) => eqL [AV.str s] [AV.str x] ∧ x.length < 1099511627776) fun n => .all (fun (r : List Nat × Bool × Bool) => r = digR n) fun n => .ex (fun (x : List UInt8) => eqL [AV.str t] [AV.str x] ∧ x.length < 1099511627776) fun n_1 => .all (fun (r : List Nat × Bool × Bool) => r = digR n_1) fun n_2 => .ite (n.2.1 == n_2.2.1) (.ex (fun (x : List Nat × List Nat) => eqL [AV.sl n.1.length 1 (natG .i64 n.1), AV.sl n_2.1.length 1 (natG .i64 n_2.1)] [AV.sl x.1.length 1 (natG .i64 x.1), AV.sl x.2.length 1 (natG .i64 x.2)] ∧ Ten.dig x.1 ∧ Ten.dig x.2 ∧ x.1.length < 1073741824 ∧ x.2.length < 1073741824) fun n_3 => .all (KF n_3) fun n_4 => .ex (fun (x : List Nat × Bool) => eqL [AV.sl n_4.length 1 (natG .i64 n_4), AV.bool (n.2.1)] [AV.sl x.1.length 1 (natG .i64 x.1), AV.bool x.2] ∧ Ten.dig x.1 ∧ x.1.length < 2147483648) fun n => .all (fun (r : List UInt8 × Int) => r = wr n.2 (Ten.val n.1)) fun n => .leaf (.ret [.str n.1, .int .i64 n.2] [])) (.ex (fun (x : List Nat × List Nat) => eqL [AV.sl n.1.length 1 (natG .i64 n.1), AV.sl n_2.1.length 1 (natG .i64 n_2.1)] [AV.sl x.1.length 1 (natG .i64 x.1), AV.sl x.2.length 1 (natG .i64 x.2)] ∧ Ten.dig x.1 ∧ Ten.dig x.2 ∧ x.1.length < 4611686018427387904 ∧ x.2.length < 4611686018427387904) fun n_3 => .all (fun (r : Int) => r = cmpN (Ten.val n_3.1) (Ten.val n_3.2)) fun n_4 => .ite (decide ((0 : Int) ≤ n_4)) (.ex (fun (x : List Nat × List Nat) => eqL [AV.sl n.1.length 1 (natG .i64 n.1), AV.sl n_2.1.length 1 (natG .i64 n_2.1)] [AV.sl x.1.length 1 (natG .i64 x.1), AV.sl x.2.length 1 (natG .i64 x.2)] ∧ Ten.dig x.1 ∧ Ten.dig x.2 ∧ x.1.length < 1099511627776 ∧ Ten.val x.2 ≤ Ten.val x.1) fun n_5 => .all (fun (r : List Nat) => r.length = n_5.1.length ∧ Ten.dig r ∧ Ten.val r + Ten.val n_5.2 = Ten.val n_5.1) fun n_6 => .ex (fun (x : List Nat × Bool) => eqL [AV.sl n_6.length 1 (natG .i64 n_6), AV.bool (n.2.1)] [AV.sl x.1.length 1 (natG .i64 x.1), AV.bool x.2] ∧ Ten.dig x.1 ∧ x.1.length < 2147483648) fun n => .all (fun (r : List UInt8 × Int) => r = wr n.2 (Ten.val n.1)) fun n => .leaf (.ret [.str n.1, .int .i64 n.2] [])) (.ex (fun (x : List Nat × List Nat) => eqL [AV.sl n_2.1.length 1 (natG .i64 n_2.1), AV.sl n.1.length 1 (natG .i64 n.1)] [AV.sl x.1.length 1 (natG .i64 x.1), AV.sl x.2.length 1 (natG .i64 x.2)] ∧ Ten.dig x.1 ∧ Ten.dig x.2 ∧ x.1.length < 1099511627776 ∧ Ten.val x.2 ≤ Ten.val x.1) fun n => .all (fun (r : List Nat) => r.length = n.1.length ∧ Ten.dig r ∧ Ten.val r + Ten.val n.2 = Ten.val n.1) fun n => .ex (fun (x : List Nat × Bool) => eqL [AV.sl n.length 1 (natG .i64 n), AV.bool (n_2.2.1)] [AV.sl x.1.length 1 (natG .i64 x.1), AV.bool x.2] ∧ Ten.dig x.1 ∧ x.1.length < 2147483648) fun n => .all (fun (r : List UInt8 × Int) => r = wr n.2 (Ten.val n.1)) fun n => .leaf (.ret [.str n.1, .int .i64 n.2] []))))) (by kernel_rfl) ?_
 simp only [Tree.holds, zc]
 refine ⟨(s, t), ⟨by simp, hs, ht⟩, ⟨_, rfl⟩, ?_⟩
 rintro _ rfl
 simp only
 refine ⟨fun he => ?_, fun he => ?_⟩
 ·have he : zm s t ≠ 0 := by
   intro h; simp [h] at he
  have e : addI s t = ([], zm s t) := if_neg he
  rw [e] at hq
  exact RetR.scal hq rfl (by simp [resV])
 have he : zm s t = 0 := by
  refine Decidable.byContradiction fun h => ?_
  simp [h] at he
 obtain ⟨h1, h2⟩ := zh.1 he
 have e : addI s t = wr (sumS (negI s) (numI s) (negI t) (numI t)).1 (sumS (negI s) (numI s) (negI t) (numI t)).2 := if_pos he
 rw [e] at hq
 refine ⟨s, ⟨by simp, hs⟩, ⟨_, rfl⟩, ?_⟩
 rintro _ rfl
 refine ⟨t, ⟨by simp, ht⟩, ⟨_, rfl⟩, ?_⟩
 rintro _ rfl
 obtain ⟨a1, a2, a3, a4⟩ := wg h1
 obtain ⟨b1, b2, b3, b4⟩ := wg h2
 rw [a1, b1]
 have ea : (parse s).1 = negI s := rfl
 have eb : (parse t).1 = negI t := rfl
 simp only [ea, eb]
 rw [← a4, ← b4] at hq
 generalize dg (parse s).2 = x at *
 generalize dg (parse t).2 = y at *
 generalize negI s = m at *
 generalize negI t = n at *
 have fin : ∀ (d : List Nat) (b : Bool), wr b (Ten.val d) = wr (sumS m (Ten.val x) n (Ten.val y)).1 (sumS m (Ten.val x) n (Ten.val y)).2 → ∀ r, r = wr b (Ten.val d) → RetR Yk 0 Q [.str r.1, .int .i64 r.2] [] := by
  rintro d b h _ rfl
  rw [← h] at hq
  exact RetR.scal hq rfl (by simp [resV])
 refine ⟨fun h => ?_, fun h => ⟨(x, y), ⟨eqL2 x y, a2, b2, by show x.length < _; omega, by show y.length < _; omega⟩, ⟨_, rfl⟩, ?_⟩⟩
 ·have h : m = n := by simpa using h
  refine ⟨(x, y), ⟨eqL2 x y, a2, b2, by show x.length < _; omega, by show y.length < _; omega⟩, KY a2 b2, ?_⟩
  rintro z ⟨g1, g2, g3⟩
  simp only at g1 g3
  refine ⟨(z, m), ⟨eqLb z m, g2, by show z.length < _; omega⟩, ⟨_, rfl⟩, ?_⟩
  exact fin z m (by rw [g3]; unfold sumS; rw [if_pos h])
 ·have h : ¬ m = n := by simpa using h
  rintro _ rfl
  simp only
  refine ⟨fun g => ?_, fun g => ?_⟩
  ·have g : Ten.val y ≤ Ten.val x := ur.1 (of_decide_eq_true g)
   refine ⟨(x, y), ⟨eqL2 x y, a2, b2, by show x.length < _; omega, g⟩, xP a2 g, ?_⟩
   rintro z ⟨g1, g2, g3⟩
   simp only at g1 g3
   refine ⟨(z, m), ⟨eqLb z m, g2, by show z.length < _; omega⟩, ⟨_, rfl⟩, ?_⟩
   exact fin z m (by unfold sumS; rw [if_neg h, if_pos g]; congr 1; omega)
  ·have g : ¬ Ten.val y ≤ Ten.val x := fun h3 => of_decide_eq_false g (ur.2 h3)
   refine ⟨(y, x), ⟨eqL2 y x, b2, a2, by show y.length < _; omega, by show Ten.val x ≤ Ten.val y; omega⟩, xP b2 (by show Ten.val x ≤ Ten.val y; omega), ?_⟩
   rintro z ⟨g1, g2, g3⟩
   simp only at g1 g3
   refine ⟨(z, n), ⟨eqLb z n, g2, by show z.length < _; omega⟩, ⟨_, rfl⟩, ?_⟩
   exact fin z n (by unfold sumS; rw [if_neg h, if_neg g]; congr 1; omega)
theorem Y2 {s : List UInt8} (h : errI s = 0) : 0 < (dg (parse s).2).length := by
 obtain ⟨_, _, h3, _⟩ := kr h
 rw [vM]
 exact List.length_pos_iff.2 h3
theorem KK : zd Try.prog 97 YM := by
 refine zg (fn := Try.f97) (c := Try.f97.body.getD .skip) rfl rfl rfl fun p hp O w0 Q hq => ?_
 obtain ⟨s, t⟩ := p
 obtain ⟨hs, ht⟩ := hp
 replace hq := hq _ rfl
 simp only at hs ht hq
 refine zb.run hmix VA [] 400 (T := .ex (fun (x : List UInt8 × List UInt8) => eqL [AV.str s, AV.str t] [AV.str x.1, AV.str x.2] ∧ x.1.length < 1099511627776 ∧ x.2.length < 1099511627776) fun n => .all (fun (r : Int) => r = zm n.1 n.2) fun n => .ite (!decide (n = 0)) (.leaf (.ret [.str (Array.toList #[]), .int .i64 n] [])) (.ex (fun (x : List UInt8) => eqL [AV.str s] [AV.str x] ∧ x.length < 1099511627776) fun n => .all (fun (r : List Nat × Bool × Bool) => r = digR n) fun n => .ex (fun (x : List UInt8) => eqL [AV.str t] [AV.str x] ∧ x.length < 1099511627776) fun n_1 => .all (fun (r : List Nat × Bool × Bool) => r = digR n_1) fun n_2 => .ex (fun (x : List Nat × List Nat) => eqL [AV.sl n.1.length 1 (natG .i64 n.1), AV.sl n_2.1.length 1 (natG .i64 n_2.1)] [AV.sl x.1.length 1 (natG .i64 x.1), AV.sl x.2.length 1 (natG .i64 x.2)] ∧ Ten.dig x.1 ∧ Ten.dig x.2 ∧ 0 < x.1.length ∧ 0 < x.2.length ∧ x.1.length < 1073741824 ∧ x.2.length < 1073741824) fun n_3 => .all (Jy n_3) fun n_4 => .ex (fun (x : List Nat × Bool) => eqL [AV.sl n_4.length 1 (natG .i64 n_4), AV.bool !Prod.fst n.2 == n_2.2.1] [AV.sl x.1.length 1 (natG .i64 x.1), AV.bool x.2] ∧ Ten.dig x.1 ∧ x.1.length < 2147483648) fun n => .all (fun (r : List UInt8 × Int) => r = wr n.2 (Ten.val n.1)) fun n => .leaf (.ret [.str n.1, .int .i64 n.2] []))) (by kernel_rfl) ?_
 simp only [Tree.holds, zc]
 refine ⟨(s, t), ⟨by simp, hs, ht⟩, ⟨_, rfl⟩, ?_⟩
 rintro _ rfl
 simp only
 refine ⟨fun he => ?_, fun he => ?_⟩
 ·have he : zm s t ≠ 0 := by
   intro h; simp [h] at he
  have e : mulI s t = ([], zm s t) := if_neg he
  rw [e] at hq
  exact RetR.scal hq rfl (by simp [resV])
 have he : zm s t = 0 := by
  refine Decidable.byContradiction fun h => ?_
  simp [h] at he
 obtain ⟨h1, h2⟩ := zh.1 he
 have e : mulI s t = wr (negI s != negI t) (numI s * numI t) := if_pos he
 rw [e] at hq
 refine ⟨s, ⟨by simp, hs⟩, ⟨_, rfl⟩, ?_⟩
 rintro _ rfl
 refine ⟨t, ⟨by simp, ht⟩, ⟨_, rfl⟩, ?_⟩
 rintro _ rfl
 obtain ⟨a1, a2, a3, a4⟩ := wg h1
 obtain ⟨b1, b2, b3, b4⟩ := wg h2
 have a5 := Y2 h1
 have b5 := Y2 h2
 rw [a1, b1]
 have ea : (parse s).1 = negI s := rfl
 have eb : (parse t).1 = negI t := rfl
 simp only [ea, eb]
 rw [← a4, ← b4] at hq
 generalize dg (parse s).2 = x at *
 generalize dg (parse t).2 = y at *
 refine ⟨(x, y), ⟨eqL2 x y, a2, b2, a5, b5, by show x.length < _; omega, by show y.length < _; omega⟩, U6 a2 b2, ?_⟩
 rintro z ⟨g1, g2, g3⟩
 simp only at g1 g3
 refine ⟨(z, negI s != negI t), ⟨eqLb z _, g2, by show z.length < _; omega⟩, ⟨_, rfl⟩, ?_⟩
 rintro _ rfl
 rw [← g3] at hq
 exact RetR.scal hq rfl (by simp [resV])
theorem zdt : zd Try.prog 112 rdmC := by
 refine zg (fn := Try.f112) (c := Try.f112.body.getD .skip) rfl rfl rfl fun p hp O w0 Q hq => ?_
 obtain ⟨s, t⟩ := p
 obtain ⟨hs, ht⟩ := hp
 replace hq := hq _ rfl
 simp only at hs ht hq
 refine zb.run hmix VA [] 400 (T := .ex (fun (x : List UInt8 × List UInt8) => eqL [AV.str s, AV.str t] [AV.str x.1, AV.str x.2] ∧ x.1.length < 1099511627776 ∧ x.2.length < 1099511627776) fun n => .all (fun (r : Int) => r = zm n.1 n.2) fun n => .ite (!decide (n = 0)) (.leaf (.ret [.str (Array.toList #[]), .str (Array.toList #[]), .int .i64 n] [])) (.ex (fun (x : List UInt8) => eqL [AV.str s] [AV.str x] ∧ x.length < 1099511627776) fun n => .all (fun (r : List Nat × Bool × Bool) => r = digR n) fun n => .ex (fun (x : List UInt8) => eqL [AV.str t] [AV.str x] ∧ x.length < 1099511627776) fun n_1 => .all (fun (r : List Nat × Bool × Bool) => r = digR n_1) fun n_2 => .ex (fun (x : List Nat) => eqL [AV.sl n_2.1.length 1 (natG .i64 n_2.1)] [AV.sl x.length 1 (natG .i64 x)] ∧ Ten.dig x ∧ x.length < 4611686018427387904) fun n_3 => .all (fun (r : Bool) => r = decide (Ten.val n_3 = 0)) fun n_4 => .ite n_4 (.leaf (.ret [.str (Array.toList #[]), .str (Array.toList #[]), .int .i64 16] [])) (.ex (fun (x : List Nat × List Nat) => eqL [AV.sl n.1.length 1 (natG .i64 n.1), AV.sl n_2.1.length 1 (natG .i64 n_2.1)] [AV.sl x.1.length 1 (natG .i64 x.1), AV.sl x.2.length 1 (natG .i64 x.2)] ∧ Ten.dig x.1 ∧ Ten.dig x.2 ∧ x.1.length < 274877906944 ∧ x.2.length < 274877906944 ∧ 0 < Ten.val x.2) fun n_5 => .all (fun (r : List Nat × List Nat) => r.1.length = n_5.1.length ∧ Ten.dig r.1 ∧ Ten.val r.1 = Ten.val n_5.1 / Ten.val n_5.2 ∧ r.2.length ≤ n_5.1.length ∧ Ten.dig r.2 ∧ Ten.val r.2 = Ten.val n_5.1 % Ten.val n_5.2) fun n_6 => .ex (fun (x : List Nat) => n.2.1 = true → eqL [AV.sl n_6.2.length 1 (natG .i64 n_6.2)] [AV.sl x.length 1 (natG .i64 x)] ∧ Ten.dig x ∧ x.length < 4611686018427387904) fun n_7 => .all (fun (x : Bool) => n.2.1 = true → x = decide (Ten.val n_7 = 0)) fun n_8 => .ite (bif n.2.1 then !n_8 else false) (.ex (fun (x : List Nat × List Nat) => eqL [AV.sl n_6.1.length 1 (natG .i64 n_6.1), AV.sl 1 1 (zf (ze 1 [AV.int .i64 1]) 0)] [AV.sl x.1.length 1 (natG .i64 x.1), AV.sl x.2.length 1 (natG .i64 x.2)] ∧ Ten.dig x.1 ∧ Ten.dig x.2 ∧ x.1.length < 1073741824 ∧ x.2.length < 1073741824) fun n_9 => .all (KF n_9) fun n_10 => .ex (fun (x : List Nat × List Nat) => eqL [AV.sl n_2.1.length 1 (natG .i64 n_2.1), AV.sl n_6.2.length 1 (natG .i64 n_6.2)] [AV.sl x.1.length 1 (natG .i64 x.1), AV.sl x.2.length 1 (natG .i64 x.2)] ∧ Ten.dig x.1 ∧ Ten.dig x.2 ∧ x.1.length < 1099511627776 ∧ Ten.val x.2 ≤ Ten.val x.1) fun n_11 => .all (fun (r : List Nat) => r.length = n_11.1.length ∧ Ten.dig r ∧ Ten.val r + Ten.val n_11.2 = Ten.val n_11.1) fun n_12 => .ex (fun (x : List Nat × Bool) => eqL [AV.sl n_10.length 1 (natG .i64 n_10), AV.bool !Prod.fst n.2 == n_2.2.1] [AV.sl x.1.length 1 (natG .i64 x.1), AV.bool x.2] ∧ Ten.dig x.1 ∧ x.1.length < 1099511627776) fun n => .all (fun (r : List UInt8) => r = qu n.2 (Ten.val n.1)) fun n => .ex (fun (x : List Nat × Bool) => eqL [AV.sl n_12.length 1 (natG .i64 n_12), AV.bool false] [AV.sl x.1.length 1 (natG .i64 x.1), AV.bool x.2] ∧ Ten.dig x.1 ∧ x.1.length < 1099511627776) fun n_13 => .all (fun (r : List UInt8) => r = qu n_13.2 (Ten.val n_13.1)) fun n_14 => .leaf (.ret [.str n, .str n_14, .int .i64 0] [.arr 1 1 (ze 1 [.int .i64 1])])) (.ex (fun (x : List Nat × Bool) => eqL [AV.sl n_6.1.length 1 (natG .i64 n_6.1), AV.bool !Prod.fst n.2 == n_2.2.1] [AV.sl x.1.length 1 (natG .i64 x.1), AV.bool x.2] ∧ Ten.dig x.1 ∧ x.1.length < 1099511627776) fun n => .all (fun (r : List UInt8) => r = qu n.2 (Ten.val n.1)) fun n => .ex (fun (x : List Nat × Bool) => eqL [AV.sl n_6.2.length 1 (natG .i64 n_6.2), AV.bool false] [AV.sl x.1.length 1 (natG .i64 x.1), AV.bool x.2] ∧ Ten.dig x.1 ∧ x.1.length < 1099511627776) fun n_9 => .all (fun (r : List UInt8) => r = qu n_9.2 (Ten.val n_9.1)) fun n_10 => .leaf (.ret [.str n, .str n_10, .int .i64 0] []))))) (by kernel_rfl) ?_
 simp only [Tree.holds, zc]
 refine ⟨(s, t), ⟨by simp, hs, ht⟩, ⟨_, rfl⟩, ?_⟩
 rintro _ rfl
 simp only
 refine ⟨fun he => ?_, fun he => ?_⟩
 ·have he : zm s t ≠ 0 := by
   intro h; simp [h] at he
  have e : dmI s t = ([], [], zm s t) := if_pos he
  rw [e] at hq
  exact RetR.scal hq rfl (by simp [resV])
 have he : zm s t = 0 := by
  refine Decidable.byContradiction fun h => ?_
  simp [h] at he
 obtain ⟨h1, h2⟩ := zh.1 he
 refine ⟨s, ⟨by simp, hs⟩, ⟨_, rfl⟩, ?_⟩
 rintro _ rfl
 refine ⟨t, ⟨by simp, ht⟩, ⟨_, rfl⟩, ?_⟩
 rintro _ rfl
 obtain ⟨a1, a2, a3, a4⟩ := wg h1
 obtain ⟨b1, b2, b3, b4⟩ := wg h2
 rw [a1, b1]
 have ea : (parse s).1 = negI s := rfl
 have eb : (parse t).1 = negI t := rfl
 simp only [ea, eb]
 generalize dg (parse s).2 = x at *
 generalize dg (parse t).2 = y at *
 refine ⟨y, ⟨⟨⟨rfl, rfl, za _ _ _⟩, trivial⟩, b2, by omega⟩, ⟨_, rfl⟩, ?_⟩
 rintro _ rfl
 refine ⟨fun h0 => ?_, fun h0 => ?_⟩
 ·have h0 : Ten.val y = 0 := of_decide_eq_true h0
  have e : dmI s t = ([], [], 16) := by rw [dmI, if_neg (by rw [he]; decide), if_pos (by rw [← b4]; exact h0)]
  rw [e] at hq
  exact RetR.scal hq rfl (by simp [resV])
 have h0 : Ten.val y ≠ 0 := of_decide_eq_false h0
 have h0' : numI t ≠ 0 := by rw [← b4]; exact h0
 have e : dmI s t = ((wr (negI s != negI t) (dmQ s t)).1, (wr false (dmM s t)).1, 0) := by rw [dmI, if_neg (by rw [he]; decide), if_neg h0']
 rw [e] at hq
 have rq := WU h1 h0'
 have rm := W0 (s := s) h2 h0'
 have hlt := Nat.mod_lt (Ten.val x) (Nat.pos_of_ne_zero h0)
 have hex : ∃ r, Xy (x, y) r := by
  obtain ⟨g1, g2, g3⟩ := u9 a2 (Nat.div_le_self (Ten.val x) (Ten.val y))
  obtain ⟨g4, g5, g6⟩ := u9 a2 (Nat.mod_le (Ten.val x) (Ten.val y))
  exact ⟨(_, _), g1, g2, g3, Nat.le_of_eq g4, g5, g6⟩
 refine ⟨(x, y), ⟨eqL2 x y, a2, b2, by show x.length < _; omega, by show y.length < _; omega, Nat.pos_of_ne_zero h0⟩, hex, ?_⟩
 rintro ⟨q, r⟩ ⟨g1, g2, g3, g4, g5, g6⟩
 simp only at g1 g2 g3 g4 g5 g6
 have fin : ∀ u v : List Nat, Ten.val u = dmQ s t → Ten.val v = dmM s t → ∀ U V : List UInt8, U = qu (negI s != negI t) (Ten.val u) → V = qu false (Ten.val v) → ∀ h : Heap, RetR rdmC 0 Q [.str U, .str V, .int .i64 0] h := by
  rintro u v hu hv _ _ rfl rfl h
  rw [← hu] at hq rq
  rw [← hv] at hq rm
  rw [← yq rq, ← yq rm] at hq
  exact RetR.scal hq rfl (by simp [resV])
 have hq1 : Ten.val q = numI s / numI t := by rw [g3, a4, b4]
 have hr1 : Ten.val r = numI s % numI t := by rw [g6, a4, b4]
 refine ⟨r, fun _ => ⟨⟨⟨rfl, rfl, za _ _ _⟩, trivial⟩, g5, by omega⟩, ⟨_, fun _ => rfl⟩, ?_⟩
 intro z hz
 refine ⟨fun hc => ?_, fun hc => ?_⟩
 ·have hm : negI s = true := by
   cases hn : negI s with
   | true => rfl
   | false => rw [hn] at hc; cases hc
  have hz := hz hm
  rw [hm] at hc
  have hc : z = false := by simpa using hc
  rw [hc] at hz
  have hr0 : Ten.val r ≠ 0 := of_decide_eq_false hz.symm
  have hcond : negI s = true ∧ 0 < numI s % numI t := ⟨hm, by omega⟩
  have eQ : dmQ s t = numI s / numI t + 1 := if_pos hcond
  have eM : dmM s t = numI t - numI s % numI t := if_pos hcond
  have h1d : Ten.dig [1] := fun d hd => by
   have : d = 1 := by simpa using hd
   rw [this]; decide
  refine ⟨(q, [1]), ⟨⟨⟨rfl, rfl, za _ _ _⟩, ⟨rfl, rfl, ?_⟩, trivial⟩, g2, h1d, by show q.length < _; omega, by show 1 < 1073741824; decide⟩, KY g2 h1d, ?_⟩
  ·intro j o hj ho
   have : j = 0 := by omega
   subst this
   have : o = 0 := by omega
   subst this
   rfl
  rintro u ⟨u1, u2, u3⟩
  simp only at u1 u3
  have hle : Ten.val r ≤ Ten.val y := by omega
  refine ⟨(y, r), ⟨eqL2 y r, b2, g5, by show y.length < _; omega, hle⟩, xP b2 hle, ?_⟩
  rintro v ⟨v1, v2, v3⟩
  simp only at v1 v3
  have hone : Ten.val [1] = 1 := rfl
  refine ⟨(u, negI s != negI t), ⟨eqLb u _, u2, by simp only [u1]; show max q.length 1 + 1 < _; omega⟩, ⟨_, rfl⟩, ?_⟩
  intro U hU
  refine ⟨(v, false), ⟨eqLb v _, v2, by simp only; omega⟩, ⟨_, rfl⟩, ?_⟩
  intro V hV
  exact fin u v (by rw [u3, hone, hq1, eQ]) (by rw [eM]; omega) U V hU hV _
 ·have hcond : ¬ (negI s = true ∧ 0 < numI s % numI t) := by
   rintro ⟨hm, h5⟩
   have hz := hz hm
   rw [hm] at hc
   have hc : z = true := by simpa using hc
   rw [hc] at hz
   have : Ten.val r = 0 := of_decide_eq_true hz.symm
   omega
  have eQ : dmQ s t = numI s / numI t := if_neg hcond
  have eM : dmM s t = numI s % numI t := if_neg hcond
  refine ⟨(q, negI s != negI t), ⟨eqLb q _, g2, by simp only; omega⟩, ⟨_, rfl⟩, ?_⟩
  intro U hU
  refine ⟨(r, false), ⟨eqLb r _, g5, by simp only; omega⟩, ⟨_, rfl⟩, ?_⟩
  intro V hV
  exact fin q r (by rw [hq1, eQ]) (by rw [hr1, eM]) U V hU hV _
end Go.Proofs.Try
end

/- The reference's rationals. -/
section
set_option maxRecDepth 100000
open Go Go.Sx Go.Proofs Go.Nov
namespace Go.Proofs.Try
attribute [local simp] eqKV eqA eqA0 eqH eqB eqL eqL0
def JP : Ctr := ctrP true (fun p : List UInt8 × List UInt8 => [.str p.1, .str p.2]) (fun p => p.1.length < 2 ^ 40 ∧ p.2.length < 2 ^ 40) (fun p r => r = q6 p.1 p.2) (fun _ r => (.tup [.str r.1, .int .i64 r.2], []))
noncomputable def GRm : Nat → Option Ctr := fun f => if f = 72 then some (Kz) else if f = 111 then some (zcp) else if f = 60 then some (Uv) else if f = 112 then some (rdmC) else none
theorem zdm : ∀ g c, GRm g = some c → zd Try.prog g c := okIf QV (okIf zbr (okIf KB (okIf zdt (zq))))
theorem zae (z : Int) : (wz z).1.length ≤ 1001 := jA _ _
theorem zak : zd Try.prog 105 JP := by
 refine zg (fn := Try.f105) (c := Try.f105.body.getD .skip) rfl rfl rfl fun p hp O w0 Q hq => ?_
 obtain ⟨s, t⟩ := p
 obtain ⟨hs, ht⟩ := hp
 replace hq := hq _ rfl
 simp only at hs ht hq
 refine zb.run hmix zdm [] 400 (T := .ex (fun (x : List UInt8 × List UInt8) => eqL [AV.str s, AV.str t] [AV.str x.1, AV.str x.2] ∧ x.1.length < 1099511627776 ∧ x.2.length < 1099511627776) fun n => .all (fun (r : Int) => r = zm n.1 n.2) fun n => .ite (!decide (n = 0)) (.leaf (.ret [.str (Array.toList #[]), .int .i64 n] [])) (.ite (decide (t = Array.toList #[(48 : UInt8)])) (.leaf (.ret [.str (Array.toList #[]), .int .i64 16] [])) (.side ((0 : Int) ≤ 0 ∧ (0 : Int) < t.length) (.ite (decide ((↑(UInt8.toNat (List.getD t 0 (0 : UInt8))) : Int) = 45)) (.ex (fun (x : List UInt8) => eqL [AV.str s] [AV.str x] ∧ errI x = 0 ∧ x.length < 1099511627776) fun n => .all (fun (r : List UInt8) => r = Prod.fst (wz (-zI n))) fun n => .ex (fun (x : List UInt8) => eqL [AV.str t] [AV.str x] ∧ errI x = 0 ∧ x.length < 1099511627776) fun n_1 => .all (fun (r : List UInt8) => r = Prod.fst (wz (-zI n_1))) fun n_2 => .ex (fun (x : List UInt8 × List UInt8) => eqL [AV.str n, AV.str n_2] [AV.str x.1, AV.str x.2] ∧ x.1.length < 1099511627776 ∧ x.2.length < 1099511627776) fun n_3 => .all (fun (r : List UInt8 × Int) => r = gcdR n_3.1 n_3.2) fun n_4 => .ex (fun (x : List UInt8 × List UInt8) => eqL [AV.str n, AV.str n_4.1] [AV.str x.1, AV.str x.2] ∧ x.1.length < 1099511627776 ∧ x.2.length < 1099511627776) fun n => .all (fun (r : List UInt8 × List UInt8 × Int) => r = dmI n.1 n.2) fun n => .ex (fun (x : List UInt8 × List UInt8) => eqL [AV.str n_2, AV.str n_4.1] [AV.str x.1, AV.str x.2] ∧ x.1.length < 1099511627776 ∧ x.2.length < 1099511627776) fun n_5 => .all (fun (r : List UInt8 × List UInt8 × Int) => r = dmI n_5.1 n_5.2) fun n_6 => .ite (decide (n_6.1 = Array.toList #[(49 : UInt8)])) (.leaf (.ret [.str n.1, .int .i64 0] [])) (.side (n.1.length + 1 ≤ 9223372036854775807) (.side (List.length (n.1 ++ Array.toList #[(47 : UInt8)]) + n_6.1.length ≤ 9223372036854775807) (.leaf (.ret [.str (n.1 ++ Array.toList #[(47 : UInt8)] ++ n_6.1), .int .i64 0] []))))) (.ex (fun (x : List UInt8 × List UInt8) => eqL [AV.str s, AV.str t] [AV.str x.1, AV.str x.2] ∧ x.1.length < 1099511627776 ∧ x.2.length < 1099511627776) fun n => .all (fun (r : List UInt8 × Int) => r = gcdR n.1 n.2) fun n => .ex (fun (x : List UInt8 × List UInt8) => eqL [AV.str s, AV.str n.1] [AV.str x.1, AV.str x.2] ∧ x.1.length < 1099511627776 ∧ x.2.length < 1099511627776) fun n_1 => .all (fun (r : List UInt8 × List UInt8 × Int) => r = dmI n_1.1 n_1.2) fun n_2 => .ex (fun (x : List UInt8 × List UInt8) => eqL [AV.str t, AV.str n.1] [AV.str x.1, AV.str x.2] ∧ x.1.length < 1099511627776 ∧ x.2.length < 1099511627776) fun n => .all (fun (r : List UInt8 × List UInt8 × Int) => r = dmI n.1 n.2) fun n => .ite (decide (n.1 = Array.toList #[(49 : UInt8)])) (.leaf (.ret [.str n_2.1, .int .i64 0] [])) (.side (n_2.1.length + 1 ≤ 9223372036854775807) (.side (List.length (n_2.1 ++ Array.toList #[(47 : UInt8)]) + n.1.length ≤ 9223372036854775807) (.leaf (.ret [.str (n_2.1 ++ Array.toList #[(47 : UInt8)] ++ n.1), .int .i64 0] []))))))))) (by kernel_rfl) ?_
 simp only [Tree.holds, zc, inR, lo, hi, Int.toNat_natCast]
 refine ⟨(s, t), ⟨by simp, hs, ht⟩, ⟨_, rfl⟩, ?_⟩
 rintro _ rfl
 simp only
 refine ⟨fun he => ?_, fun he => ?_⟩
 ·have he : zm s t ≠ 0 := by
   intro h; simp [h] at he
  have e : q6 s t = ([], zm s t) := if_pos he
  rw [e] at hq
  exact RetR.scal hq rfl (by simp [resV])
 have he : zm s t = 0 := by
  refine Decidable.byContradiction fun h => ?_
  simp [h] at he
 obtain ⟨h1, h2⟩ := zh.1 he
 refine ⟨fun h0 => ?_, fun h0 => ?_⟩
 ·have h0 : t = [48] := by simpa using h0
  have e : q6 s t = ([], 16) := by rw [q6, if_neg (by rw [he]; decide), if_pos ((wE h2).1 h0)]
  rw [e] at hq
  exact RetR.scal hq rfl (by simp [resV])
 have ht0 : t ≠ [48] := fun h => of_decide_eq_false h0 h
 have hn0 : numI t ≠ 0 := fun h => ht0 ((wE h2).2 h)
 have htn : t ≠ [] := by rintro rfl; simp [ZA] at h2
 have hneg := yA htn
 have e : q6 s t = (Qm (negI s != negI t) (numI s) (numI t), 0) := by rw [q6, if_neg (by rw [he]; decide), if_neg hn0]
 rw [e, Qm] at hq
 obtain ⟨g0, gr⟩ := Zi (s := s) h2 hn0
 have ds : Nat.gcd (numI s) (numI t) ∣ numI s := Nat.gcd_dvd_left _ _
 have dt : Nat.gcd (numI s) (numI t) ∣ numI t := Nat.gcd_dvd_right _ _
 have fin : ∀ u v : List UInt8, errI u = 0 → errI v = 0 → numI u = numI s → numI v = numI t → negI v = false → (numI s ≠ 0 → negI u = (negI s != negI t)) → u.length < 2 ^ 40 → v.length < 2 ^ 40 →
   ∃ n : List UInt8 × List UInt8, (eqL [AV.str u, AV.str v] [AV.str n.1, AV.str n.2] ∧ n.1.length < 1099511627776 ∧ n.2.length < 1099511627776) ∧ (∃ r, r = gcdR n.1 n.2) ∧ ∀ r : List UInt8 × Int, r = gcdR n.1 n.2 →
    ∃ n : List UInt8 × List UInt8, (eqL [AV.str u, AV.str r.1] [AV.str n.1, AV.str n.2] ∧ n.1.length < 1099511627776 ∧ n.2.length < 1099511627776) ∧ (∃ r, r = dmI n.1 n.2) ∧ ∀ z : List UInt8 × List UInt8 × Int, z = dmI n.1 n.2 →
     ∃ n : List UInt8 × List UInt8, (eqL [AV.str v, AV.str r.1] [AV.str n.1, AV.str n.2] ∧ n.1.length < 1099511627776 ∧ n.2.length < 1099511627776) ∧ (∃ r, r = dmI n.1 n.2) ∧ ∀ w : List UInt8 × List UInt8 × Int, w = dmI n.1 n.2 →
      (decide (w.1 = [49]) = true → RetR JP 0 Q [.str z.1, .int .i64 0] []) ∧ (decide (w.1 = [49]) = false → z.1.length + 1 ≤ 9223372036854775807 ∧ (z.1.length + 1 ≤ 9223372036854775807 → (z.1 ++ [47]).length + w.1.length ≤ 9223372036854775807 ∧ ((z.1 ++ [47]).length + w.1.length ≤ 9223372036854775807 → RetR JP 0 Q [.str (z.1 ++ [47] ++ w.1), .int .i64 0] []))) := by
  intro u v eu ev nu nv sv su lu lv
  refine ⟨(u, v), ⟨⟨rfl, rfl, trivial⟩, by simpa using lu, by simpa using lv⟩, ⟨_, rfl⟩, ?_⟩
  rintro _ rfl
  have eg : gcdR u v = wr false (Nat.gcd (numI s) (numI t)) := by rw [gcdR, if_pos (zh.2 ⟨eu, ev⟩), nu, nv]
  rw [eg]
  generalize Nat.gcd (numI s) (numI t) = g at *
  have l1 := jA false g
  refine ⟨(u, (wr false g).1), ⟨⟨rfl, rfl, trivial⟩, by simpa using lu, by simp only; omega⟩, ⟨_, rfl⟩, ?_⟩
  rintro _ rfl
  refine ⟨(v, (wr false g).1), ⟨⟨rfl, rfl, trivial⟩, by simpa using lv, by simp only; omega⟩, ⟨_, rfl⟩, ?_⟩
  rintro _ rfl
  rw [yd eu g0 gr (by rw [nu]; exact ds), yd ev g0 gr (by rw [nv]; exact dt), nu, nv, sv]
  simp only
  have hb : (negI u != false) = negI u := by cases negI u <;> rfl
  have hb2 : (false != false) = false := rfl
  rw [hb, hb2]
  have hw : wr (negI u) (numI s / g) = wr (negI s != negI t) (numI s / g) := JI fun h => su fun h5 => h (by rw [h5, Nat.zero_div])
  rw [hw]
  have rt := room_le (Nat.div_le_self (numI t) g) (qG h2)
  have k1 := jA (negI s != negI t) (numI s / g)
  have k2 := jA false (numI t / g)
  refine ⟨fun h => ?_, fun h => ⟨by omega, fun _ => ⟨by simp <;> omega, fun _ => ?_⟩⟩⟩
  ·have h1 := (Zl rt).1 (of_decide_eq_true h)
   rw [if_pos h1] at hq
   exact RetR.scal hq rfl (by simp [resV])
  ·have h1 : ¬ numI t / g = 1 := fun h1 => of_decide_eq_false h ((Zl rt).2 h1)
   rw [if_neg h1] at hq
   exact RetR.scal hq rfl (by simp [resV])
 have lt0 := List.length_pos_iff.2 htn
 refine ⟨⟨by omega, by omega⟩, fun _ => ⟨fun hb => ?_, fun hb => ?_⟩⟩
 ·have hn : negI t = true := by
   rw [hneg, decide_eq_true_eq]
   exact xQ (of_decide_eq_true hb)
  refine ⟨s, ⟨by simp, h1, hs⟩, ⟨_, rfl⟩, ?_⟩
  rintro _ rfl
  refine ⟨t, ⟨by simp, h2, ht⟩, ⟨_, rfl⟩, ?_⟩
  rintro _ rfl
  have zs : (wz (-zI s)).2 = 0 := by rw [wD, kQ h1]
  have zt : (wz (-zI t)).2 = 0 := by rw [wD, kQ h2]
  have ws := zae (-zI s)
  have wt := zae (-zI t)
  have es := vn zs
  have et := vn zt
  refine fin _ _ es et (by rw [← q9, j7 zs, Int.natAbs_neg, q9]) (by rw [← q9, j7 zt, Int.natAbs_neg, q9]) ?_ (fun h => ?_) (by omega) (by omega)
  ·rw [kK et, j7 zt]
   have : zI t < 0 := by have := kK h2; rw [hn] at this; exact of_decide_eq_true this.symm
   exact decide_eq_false (by omega)
  ·rw [kK es, j7 zs, hn]
   have ha := q9 s
   have hs2 := kK h1
   cases hm : negI s with
   | true => rw [hm] at hs2; have := of_decide_eq_true hs2.symm; exact decide_eq_false (by omega)
   | false => rw [hm] at hs2; have := of_decide_eq_false hs2.symm; exact decide_eq_true (by omega)
 ·have hn : negI t = false := by
   rw [hneg, decide_eq_false_iff_not]
   intro h
   apply of_decide_eq_false hb
   rw [h]; rfl
  exact fin s t h1 h2 rfl rfl hn (fun _ => by rw [hn]; cases negI s <;> rfl) hs ht
structure Q4 where
 n : List UInt8
 d : List UInt8
 m : List UInt8
 c : List UInt8
 e : Int
def vX (a b : List UInt8) : Q4 := if zO a b ≠ 0 then ⟨[], [], [], [], zO a b⟩ else ⟨numR a, denR a, numR b, denR b, 0⟩
def JD : Ctr := ctrP true (fun p : List UInt8 × List UInt8 => [.str p.1, .str p.2]) (fun p => p.1.length < 2 ^ 40 ∧ p.2.length < 2 ^ 40) (fun p r => r = vX p.1 p.2) (fun _ (r : Q4) => (.tup [.str r.n, .str r.d, .str r.m, .str r.c, .int .i64 r.e], []))
noncomputable def GRf : Nat → Option Ctr := fun f => if f = 32 then some (ye) else if f = 57 then some (Zy) else none
theorem zde : ∀ g c, GRf g = some c → zd Try.prog g c := okIf x5 (okIf Zz (zq))
theorem ZE : zd Try.prog 95 JD := by
 refine zg (fn := Try.f95) (c := Try.f95.body.getD .skip) rfl rfl rfl fun p hp O w0 Q hq => ?_
 obtain ⟨a, b⟩ := p
 obtain ⟨ha, hb⟩ := hp
 replace hq := hq _ rfl
 simp only at ha hb hq
 unfold vX zO at hq
 refine zb.run hmix zde [] 400 (T := .ex (fun (x : List UInt8) => eqL [AV.str a] [AV.str x] ∧ x.length < 1099511627776) fun n => .all (fun (r : Int) => r = errR n) fun n => .ite (!decide (n = 0)) (.ex (fun (x : List UInt8) => eqL [AV.str a] [AV.str x] ∧ x.length < 1099511627776) fun n => .all (fun (r : Int) => r = errR n) fun n => .leaf (.ret [.str (Array.toList #[]), .str (Array.toList #[]), .str (Array.toList #[]), .str (Array.toList #[]), .int .i64 n] [])) (.ex (fun (x : List UInt8) => eqL [AV.str b] [AV.str x] ∧ x.length < 1099511627776) fun n => .all (fun (r : Int) => r = errR n) fun n => .ite (!decide (n = 0)) (.ex (fun (x : List UInt8) => eqL [AV.str b] [AV.str x] ∧ x.length < 1099511627776) fun n => .all (fun (r : Int) => r = errR n) fun n => .leaf (.ret [.str (Array.toList #[]), .str (Array.toList #[]), .str (Array.toList #[]), .str (Array.toList #[]), .int .i64 n] [])) (.ex (fun (x : List UInt8) => eqL [AV.str a] [AV.str x] ∧ x.length < 4611686018427387904) fun n => .all (fun (r : List UInt8 × List UInt8) => r = (Prod.fst (cutR n), if Prod.snd (Prod.snd (cutR n)) = true then Prod.fst (Prod.snd (cutR n)) else [(49 : UInt8)])) fun n => .ex (fun (x : List UInt8) => eqL [AV.str b] [AV.str x] ∧ x.length < 4611686018427387904) fun n_1 => .all (fun (r : List UInt8 × List UInt8) => r = (Prod.fst (cutR n_1), if Prod.snd (Prod.snd (cutR n_1)) = true then Prod.fst (Prod.snd (cutR n_1)) else [(49 : UInt8)])) fun n_2 => .leaf (.ret [.str n.1, .str n.2, .str n_2.1, .str n_2.2, .int .i64 0] [])))) (by kernel_rfl) ?_
 simp only [Tree.holds, zc]
 refine ⟨a, ⟨by simp, ha⟩, ⟨_, rfl⟩, ?_⟩
 rintro _ rfl
 refine ⟨fun h => ?_, fun h => ⟨b, ⟨by simp, hb⟩, ⟨_, rfl⟩, ?_⟩⟩
 ·have h : errR a ≠ 0 := by simpa using h
  rw [if_neg h, if_pos h] at hq
  refine ⟨a, ⟨by simp, ha⟩, ⟨_, rfl⟩, ?_⟩
  rintro _ rfl
  exact RetR.scal hq rfl (by simp [resV])
 ·have h : errR a = 0 := by simpa using h
  rw [if_pos h] at hq
  rintro _ rfl
  refine ⟨fun g => ?_, fun g => ⟨a, ⟨by simp, by show a.length < _; omega⟩, ⟨_, rfl⟩, ?_⟩⟩
  ·have g : errR b ≠ 0 := by simpa using g
   rw [if_pos g] at hq
   refine ⟨b, ⟨by simp, hb⟩, ⟨_, rfl⟩, ?_⟩
   rintro _ rfl
   exact RetR.scal hq rfl (by simp [resV])
  ·have g : errR b = 0 := by simpa using g
   rw [if_neg (by rw [g]; simp)] at hq
   rintro _ rfl
   refine ⟨b, ⟨by simp, by show b.length < _; omega⟩, ⟨_, rfl⟩, ?_⟩
   rintro _ rfl
   exact RetR.scal hq rfl (by simp [resV, numR, denR])
def JG (a b : List UInt8) : List UInt8 × List UInt8 × Int := if zK a b ≠ 0 then ([], [], zK a b) else ((mulI (numR a) (denR b)).1, (mulI (numR b) (denR a)).1, 0)
def Kx : Ctr := ctrP true (fun p : List UInt8 × List UInt8 => [.str p.1, .str p.2]) (fun p => p.1.length < 2 ^ 39 ∧ p.2.length < 2 ^ 39) (fun p r => r = JG p.1 p.2) (fun _ r => (.tup [.str r.1, .str r.2.1, .int .i64 r.2.2], []))
noncomputable def GRc : Nat → Option Ctr := fun f => if f = 95 then some (JD) else if f = 97 then some (YM) else none
theorem zcz : ∀ g c, GRc g = some c → zd Try.prog g c := okIf ZE (okIf KK (zq))
theorem XP : zd Try.prog 94 Kx := by
 refine zg (fn := Try.f94) (c := Try.f94.body.getD .skip) rfl rfl rfl fun p hp O w0 Q hq => ?_
 obtain ⟨a, b⟩ := p
 obtain ⟨ha, hb⟩ := hp
 replace hq := hq _ rfl
 simp only at ha hb hq
 have ea : zK a b = if zO a b ≠ 0 then zO a b else if (mulI (numR a) (denR b)).2 ≠ 0 ∨ (mulI (numR b) (denR a)).2 ≠ 0 then 14 else 0 := rfl
 unfold JG at hq
 refine zb.run hmix zcz [] 400 (T := .ex (fun (x : List UInt8 × List UInt8) => eqL [AV.str a, AV.str b] [AV.str x.1, AV.str x.2] ∧ x.1.length < 1099511627776 ∧ x.2.length < 1099511627776) fun n => .all (fun (r : Q4) => r = vX n.1 n.2) fun n => .ite (!decide (Q4.e n = 0)) (.leaf (.ret [.str (Array.toList #[]), .str (Array.toList #[]), .int .i64 n.e] [])) (.ex (fun (x : List UInt8 × List UInt8) => eqL [AV.str n.n, AV.str n.c] [AV.str x.1, AV.str x.2] ∧ x.1.length < 1099511627776 ∧ x.2.length < 1099511627776) fun n_1 => .all (fun (r : List UInt8 × Int) => r = mulI n_1.1 n_1.2) fun n_2 => .ex (fun (x : List UInt8 × List UInt8) => eqL [AV.str n.m, AV.str n.d] [AV.str x.1, AV.str x.2] ∧ x.1.length < 1099511627776 ∧ x.2.length < 1099511627776) fun n => .all (fun (r : List UInt8 × Int) => r = mulI n.1 n.2) fun n => .ite (bif !decide (n_2.2 = 0) then true else !decide (n.2 = 0)) (.leaf (.ret [.str (Array.toList #[]), .str (Array.toList #[]), .int .i64 14] [])) (.leaf (.ret [.str n_2.1, .str n.1, .int .i64 0] [])))) (by kernel_rfl) ?_
 simp only [Tree.holds, zc]
 refine ⟨(a, b), ⟨⟨rfl, rfl, trivial⟩, by show a.length < _; omega, by show b.length < _; omega⟩, ⟨_, rfl⟩, ?_⟩
 rintro _ rfl
 simp only [vX]
 by_cases he : zO a b = 0
 ·rw [if_neg (by rw [he]; simp)]
  rw [he, if_neg (by simp)] at ea
  have l1 := jS a
  have l2 := je a
  have l3 := jS b
  have l4 := je b
  refine ⟨fun h => (by cases h), fun _ => ?_⟩
  refine ⟨(numR a, denR b), ⟨⟨rfl, rfl, trivial⟩, by simp only; omega, by simp only; omega⟩, ⟨_, rfl⟩, ?_⟩
  rintro _ rfl
  refine ⟨(numR b, denR a), ⟨⟨rfl, rfl, trivial⟩, by simp only; omega, by simp only; omega⟩, ⟨_, rfl⟩, ?_⟩
  rintro _ rfl
  simp only
  by_cases h1 : (mulI (numR a) (denR b)).2 = 0
  ·by_cases h2 : (mulI (numR b) (denR a)).2 = 0
   ·rw [if_neg (by simp [h1, h2])] at ea
    rw [ea, if_neg (by simp)] at hq
    refine ⟨fun h => (by simp [h1, h2] at h), fun _ => RetR.scal hq rfl (by simp [resV])⟩
   ·rw [if_pos (.inr h2)] at ea
    rw [ea, if_pos (by decide)] at hq
    refine ⟨fun _ => RetR.scal hq rfl (by simp [resV]), fun h => (by simp [h1, h2] at h)⟩
  ·rw [if_pos (.inl h1)] at ea
   rw [ea, if_pos (by decide)] at hq
   refine ⟨fun _ => RetR.scal hq rfl (by simp [resV]), fun h => (by simp [h1] at h)⟩
 ·rw [if_pos he]
  rw [if_pos he] at ea
  rw [ea, if_pos he] at hq
  refine ⟨fun _ => RetR.scal hq rfl (by simp [resV]), fun h => (by simp [he] at h)⟩
structure QF where
 n : List UInt8
 d : List UInt8
 e : Int
 f : Int
def Ul : Ctr := ctrP true (fun k : QF => [.str k.n, .str k.d, .int .i64 k.e, .int .i64 k.f]) (fun k => k.n.length < 2 ^ 40 ∧ k.d.length < 2 ^ 40) (fun k r => r = frac (k.n, k.e) (k.d, k.f)) (fun _ r => (.tup [.str r.1, .int .i64 r.2], []))
noncomputable def GRg : Nat → Option Ctr := fun f => if f = 105 then some (JP) else none
theorem zdo : ∀ g c, GRg g = some c → zd Try.prog g c := okIf zak (zq)
theorem Yj : zd Try.prog 98 Ul := by
 refine zg (fn := Try.f98) (c := Try.f98.body.getD .skip) rfl rfl rfl fun k hk O w0 Q hq => ?_
 obtain ⟨n, d, e, f⟩ := k
 obtain ⟨hn, hd⟩ := hk
 replace hq := hq _ rfl
 simp only at hn hd hq
 unfold frac at hq
 refine zb.run hmix zdo [] 400 (T := .ite (bif !decide (e = 0) then true else !decide (f = 0)) (.leaf (.ret [.str (Array.toList #[]), .int .i64 14] [])) (.ex (fun (x : List UInt8 × List UInt8) => eqL [AV.str n, AV.str d] [AV.str x.1, AV.str x.2] ∧ x.1.length < 1099511627776 ∧ x.2.length < 1099511627776) fun n => .all (fun (r : List UInt8 × Int) => r = q6 n.1 n.2) fun n => .leaf (.ret [.str n.1, .int .i64 n.2] []))) (by kernel_rfl) ?_
 simp only [Tree.holds, zc]
 by_cases h : e ≠ 0 ∨ f ≠ 0
 ·rw [if_pos h] at hq
  refine ⟨fun _ => RetR.scal hq rfl (by simp [resV]), fun g => ?_⟩
  exfalso
  by_cases h1 : e = 0
  ·have h2 : f ≠ 0 := h.resolve_left (by simp [h1])
   simp [h1, h2] at g
  ·simp [h1] at g
 ·rw [if_neg h] at hq
  simp only [not_or, Classical.not_not] at h
  refine ⟨fun g => (by simp [h.1, h.2] at g), fun _ => ⟨(n, d), ⟨⟨rfl, rfl, trivial⟩, hn, hd⟩, ⟨_, rfl⟩, ?_⟩⟩
  rintro _ rfl
  exact RetR.scal hq rfl (by simp [resV])
def Um : Ctr := ctrP true (fun s : List UInt8 => [.str s]) (fun s => 0 < s.length ∧ s.length < 2 ^ 40) (fun s r => r = negS s) (fun _ r => (.str r, []))
theorem zai : zd Try.prog 28 Um := by
 refine zg (fn := Try.f28) (c := Try.f28.body.getD .skip) rfl rfl rfl fun s hp O w0 Q hq => ?_
 obtain ⟨h0, hl⟩ := hp
 replace hq := hq _ rfl
 unfold negS at hq
 refine zb.run hmix zy [] 400 (T := .ite (decide (s = Array.toList #[(48 : UInt8)])) (.leaf (.ret [.str s] [])) (.side ((0 : Int) ≤ 0 ∧ (0 : Int) < s.length) (.ite (decide ((↑(UInt8.toNat (List.getD s 0 (0 : UInt8))) : Int) = 45)) (.side ((0 : Int) ≤ 1 ∧ (1 : Int) ≤ s.length) (.leaf (.ret [.str (List.drop 1 (List.take s.length s))] []))) (.side (1 + s.length ≤ 9223372036854775807) (.leaf (.ret [.str (Array.toList #[(45 : UInt8)] ++ s)] [])))))) (by kernel_rfl) ?_
 simp only [Tree.holds, zc, inR, lo, hi, Int.toNat_natCast]
 refine ⟨fun h => ?_, fun h => ⟨⟨by omega, by omega⟩, fun _ => ⟨fun g => ⟨by omega, fun _ => ?_⟩, fun g => ⟨by show 1 + s.length ≤ _; omega, fun _ => ?_⟩⟩⟩⟩
 ·have h : s = [48] := by simpa using h
  rw [if_pos h] at hq
  exact RetR.scal hq rfl (by simp [resV])
 ·have h : s ≠ [48] := of_decide_eq_false h
  have g : s.getD 0 0 = 45 := xQ (of_decide_eq_true g)
  rw [if_neg h, if_pos g] at hq
  have e : List.drop (Int.toNat 1) (List.take s.length s) = s.drop 1 := by rw [List.take_length]; rfl
  exact RetR.scal hq rfl (by simp [resV])
 ·have h : s ≠ [48] := of_decide_eq_false h
  have g : ¬ s.getD 0 0 = 45 := fun h5 => of_decide_eq_false g (by rw [h5]; rfl)
  rw [if_neg h, if_neg g] at hq
  exact RetR.scal hq rfl (by simp [resV])
def VW : Ctr := ctrP true (fun p : List UInt8 × List UInt8 => [.str p.1, .str p.2]) (fun p => p.1.length < 2 ^ 39 ∧ p.2.length < 2 ^ 39) (fun p r => r = addR p.1 p.2) (fun _ r => (.tup [.str r.1, .int .i64 r.2], []))
def Ym : Ctr := ctrP true (fun p : List UInt8 × List UInt8 => [.str p.1, .str p.2]) (fun p => p.1.length < 2 ^ 38 ∧ p.2.length < 2 ^ 38) (fun p r => r = subR p.1 p.2) (fun _ r => (.tup [.str r.1, .int .i64 r.2], []))
def Un : Ctr := ctrP true (fun p : List UInt8 × List UInt8 => [.str p.1, .str p.2]) (fun p => p.1.length < 2 ^ 39 ∧ p.2.length < 2 ^ 39) (fun p r => r = mulR p.1 p.2) (fun _ r => (.tup [.str r.1, .int .i64 r.2], []))
def zao : Ctr := ctrP true (fun p : List UInt8 × List UInt8 => [.str p.1, .str p.2]) (fun p => p.1.length < 2 ^ 39 ∧ p.2.length < 2 ^ 39) (fun p r => r = divR p.1 p.2) (fun _ r => (.tup [.str r.1, .int .i64 r.2], []))
noncomputable def GRh : Nat → Option Ctr := fun f => if f = 95 then some (JD) else if f = 94 then some (Kx) else if f = 96 then some (Yk) else if f = 97 then some (YM) else if f = 98 then some (Ul) else none
theorem V9 : ∀ g c, GRh g = some c → zd Try.prog g c := okIf ZE (okIf XP (okIf zb6 (okIf KK (okIf Yj (zq)))))
theorem JR : zd Try.prog 76 VW := by
 refine zg (fn := Try.f76) (c := Try.f76.body.getD .skip) rfl rfl rfl fun p hp O w0 Q hq => ?_
 obtain ⟨a, b⟩ := p
 obtain ⟨ha, hb⟩ := hp
 replace hq := hq _ rfl
 simp only at ha hb hq
 unfold addR at hq
 refine zb.run hmix V9 [] 400 (T := .ex (fun (x : List UInt8 × List UInt8) => eqL [AV.str a, AV.str b] [AV.str x.1, AV.str x.2] ∧ x.1.length < 549755813888 ∧ x.2.length < 549755813888) fun n => .all (fun (r : List UInt8 × List UInt8 × Int) => r = JG n.1 n.2) fun n => .ite (!decide (n.2.2 = 0)) (.leaf (.ret [.str (Array.toList #[]), .int .i64 (n.2.2)] [])) (.ex (fun (x : List UInt8 × List UInt8) => eqL [AV.str a, AV.str b] [AV.str x.1, AV.str x.2] ∧ x.1.length < 1099511627776 ∧ x.2.length < 1099511627776) fun n_1 => .all (fun (r : Q4) => r = vX n_1.1 n_1.2) fun n_2 => .ex (fun (x : List UInt8 × List UInt8) => eqL [AV.str n.1, AV.str (n.2.1)] [AV.str x.1, AV.str x.2] ∧ x.1.length < 1099511627776 ∧ x.2.length < 1099511627776) fun n => .all (fun (r : List UInt8 × Int) => r = addI n.1 n.2) fun n => .ex (fun (x : List UInt8 × List UInt8) => eqL [AV.str n_2.d, AV.str n_2.c] [AV.str x.1, AV.str x.2] ∧ x.1.length < 1099511627776 ∧ x.2.length < 1099511627776) fun n_3 => .all (fun (r : List UInt8 × Int) => r = mulI n_3.1 n_3.2) fun n_4 => .ex (fun (x : QF) => eqL [AV.str n.1, AV.str n_4.1, AV.int .i64 n.2, AV.int .i64 n_4.2] [AV.str x.n, AV.str x.d, AV.int .i64 x.e, AV.int .i64 x.f] ∧ x.n.length < 1099511627776 ∧ x.d.length < 1099511627776) fun n => .all (fun (r : List UInt8 × Int) => r = frac (QF.n n, QF.e n) (QF.d n, QF.f n)) fun n => .leaf (.ret [.str n.1, .int .i64 n.2] []))) (by kernel_rfl) ?_
 simp only [Tree.holds, zc]
 refine ⟨(a, b), ⟨⟨rfl, rfl, trivial⟩, ha, hb⟩, ⟨_, rfl⟩, ?_⟩
 rintro _ rfl
 simp only [JG]
 by_cases he : zK a b = 0
 ·rw [if_neg (by rw [he]; simp)] at hq ⊢
  refine ⟨fun h => (by cases h), fun _ => ?_⟩
  have h2 : zO a b = 0 := by
   refine Decidable.byContradiction fun h => ?_
   unfold zK at he
   rw [if_pos h] at he
   exact h he
  have l1 := qx (numR a) (denR b)
  have l2 := qx (numR b) (denR a)
  have l3 := je a
  have l4 := je b
  have l5 := qx (denR a) (denR b)
  have l6 := Z7 (mulI (numR a) (denR b)).1 (mulI (numR b) (denR a)).1
  refine ⟨(a, b), ⟨⟨rfl, rfl, trivial⟩, by show a.length < _; omega, by show b.length < _; omega⟩, ⟨_, rfl⟩, ?_⟩
  rintro _ rfl
  simp only [vX]
  rw [if_neg (by rw [h2]; simp)]
  refine ⟨((mulI (numR a) (denR b)).1, (mulI (numR b) (denR a)).1), ⟨⟨rfl, rfl, trivial⟩, by simp only; omega, by simp only; omega⟩, ⟨_, rfl⟩, ?_⟩
  rintro _ rfl
  refine ⟨(denR a, denR b), ⟨⟨rfl, rfl, trivial⟩, by simp only; omega, by simp only; omega⟩, ⟨_, rfl⟩, ?_⟩
  rintro _ rfl
  refine ⟨⟨_, _, _, _⟩, ⟨⟨rfl, rfl, ⟨rfl, rfl⟩, ⟨rfl, rfl⟩, trivial⟩, Nat.lt_of_le_of_lt (Z7 _ _) (by decide), Nat.lt_of_le_of_lt (qx _ _) (by decide)⟩, ⟨_, rfl⟩, ?_⟩
  rintro _ rfl
  exact RetR.scal hq rfl (by simp [resV])
 ·rw [if_pos he] at hq ⊢
  refine ⟨fun _ => RetR.scal hq rfl (by simp [resV]), fun h => (by simp [he] at h)⟩
theorem Y5 : zd Try.prog 78 Un := by
 refine zg (fn := Try.f78) (c := Try.f78.body.getD .skip) rfl rfl rfl fun p hp O w0 Q hq => ?_
 obtain ⟨a, b⟩ := p
 obtain ⟨ha, hb⟩ := hp
 replace hq := hq _ rfl
 simp only at ha hb hq
 unfold mulR at hq
 refine zb.run hmix V9 [] 400 (T := .ex (fun (x : List UInt8 × List UInt8) => eqL [AV.str a, AV.str b] [AV.str x.1, AV.str x.2] ∧ x.1.length < 1099511627776 ∧ x.2.length < 1099511627776) fun n => .all (fun (r : Q4) => r = vX n.1 n.2) fun n => .ite (!decide (Q4.e n = 0)) (.leaf (.ret [.str (Array.toList #[]), .int .i64 n.e] [])) (.ex (fun (x : List UInt8 × List UInt8) => eqL [AV.str n.n, AV.str n.m] [AV.str x.1, AV.str x.2] ∧ x.1.length < 1099511627776 ∧ x.2.length < 1099511627776) fun n_1 => .all (fun (r : List UInt8 × Int) => r = mulI n_1.1 n_1.2) fun n_2 => .ex (fun (x : List UInt8 × List UInt8) => eqL [AV.str n.d, AV.str n.c] [AV.str x.1, AV.str x.2] ∧ x.1.length < 1099511627776 ∧ x.2.length < 1099511627776) fun n => .all (fun (r : List UInt8 × Int) => r = mulI n.1 n.2) fun n => .ex (fun (x : QF) => eqL [AV.str n_2.1, AV.str n.1, AV.int .i64 n_2.2, AV.int .i64 n.2] [AV.str x.n, AV.str x.d, AV.int .i64 x.e, AV.int .i64 x.f] ∧ x.n.length < 1099511627776 ∧ x.d.length < 1099511627776) fun n => .all (fun (r : List UInt8 × Int) => r = frac (QF.n n, QF.e n) (QF.d n, QF.f n)) fun n => .leaf (.ret [.str n.1, .int .i64 n.2] []))) (by kernel_rfl) ?_
 simp only [Tree.holds, zc]
 refine ⟨(a, b), ⟨⟨rfl, rfl, trivial⟩, by show a.length < _; omega, by show b.length < _; omega⟩, ⟨_, rfl⟩, ?_⟩
 rintro _ rfl
 simp only [vX]
 by_cases he : zO a b = 0
 ·rw [if_neg (by rw [he]; simp)] at hq ⊢
  refine ⟨fun h => (by cases h), fun _ => ?_⟩
  have l1 := jS a
  have l2 := jS b
  have l3 := je a
  have l4 := je b
  have l5 := qx (denR a) (denR b)
  have l6 := qx (numR a) (numR b)
  refine ⟨(numR a, numR b), ⟨⟨rfl, rfl, trivial⟩, by simp only; omega, by simp only; omega⟩, ⟨_, rfl⟩, ?_⟩
  rintro _ rfl
  refine ⟨(denR a, denR b), ⟨⟨rfl, rfl, trivial⟩, by simp only; omega, by simp only; omega⟩, ⟨_, rfl⟩, ?_⟩
  rintro _ rfl
  refine ⟨⟨_, _, _, _⟩, ⟨⟨rfl, rfl, ⟨rfl, rfl⟩, ⟨rfl, rfl⟩, trivial⟩, Nat.lt_of_le_of_lt (qx _ _) (by decide), Nat.lt_of_le_of_lt (qx _ _) (by decide)⟩, ⟨_, rfl⟩, ?_⟩
  rintro _ rfl
  exact RetR.scal hq rfl (by simp [resV])
 ·rw [if_pos he] at hq ⊢
  refine ⟨fun _ => RetR.scal hq rfl (by simp [resV]), fun h => (by simp [he] at h)⟩
theorem UU : zd Try.prog 79 zao := by
 refine zg (fn := Try.f79) (c := Try.f79.body.getD .skip) rfl rfl rfl fun p hp O w0 Q hq => ?_
 obtain ⟨a, b⟩ := p
 obtain ⟨ha, hb⟩ := hp
 replace hq := hq _ rfl
 simp only at ha hb hq
 unfold divR at hq
 refine zb.run hmix V9 [] 400 (T := .ex (fun (x : List UInt8 × List UInt8) => eqL [AV.str a, AV.str b] [AV.str x.1, AV.str x.2] ∧ x.1.length < 1099511627776 ∧ x.2.length < 1099511627776) fun n => .all (fun (r : Q4) => r = vX n.1 n.2) fun n => .ite (!decide (Q4.e n = 0)) (.leaf (.ret [.str (Array.toList #[]), .int .i64 n.e] [])) (.ite (decide (Q4.m n = Array.toList #[(48 : UInt8)])) (.leaf (.ret [.str (Array.toList #[]), .int .i64 16] [])) (.ex (fun (x : List UInt8 × List UInt8) => eqL [AV.str n.n, AV.str n.c] [AV.str x.1, AV.str x.2] ∧ x.1.length < 1099511627776 ∧ x.2.length < 1099511627776) fun n_1 => .all (fun (r : List UInt8 × Int) => r = mulI n_1.1 n_1.2) fun n_2 => .ex (fun (x : List UInt8 × List UInt8) => eqL [AV.str n.d, AV.str n.m] [AV.str x.1, AV.str x.2] ∧ x.1.length < 1099511627776 ∧ x.2.length < 1099511627776) fun n => .all (fun (r : List UInt8 × Int) => r = mulI n.1 n.2) fun n => .ex (fun (x : QF) => eqL [AV.str n_2.1, AV.str n.1, AV.int .i64 n_2.2, AV.int .i64 n.2] [AV.str x.n, AV.str x.d, AV.int .i64 x.e, AV.int .i64 x.f] ∧ x.n.length < 1099511627776 ∧ x.d.length < 1099511627776) fun n => .all (fun (r : List UInt8 × Int) => r = frac (QF.n n, QF.e n) (QF.d n, QF.f n)) fun n => .leaf (.ret [.str n.1, .int .i64 n.2] [])))) (by kernel_rfl) ?_
 simp only [Tree.holds, zc]
 refine ⟨(a, b), ⟨⟨rfl, rfl, trivial⟩, by show a.length < _; omega, by show b.length < _; omega⟩, ⟨_, rfl⟩, ?_⟩
 rintro _ rfl
 simp only [vX]
 by_cases he : zO a b = 0
 ·rw [if_neg (by rw [he]; simp)] at hq ⊢
  refine ⟨fun h => (by cases h), fun _ => ⟨fun h => ?_, fun h => ?_⟩⟩
  ·rw [if_pos (of_decide_eq_true h)] at hq
   exact RetR.scal hq rfl (by simp [resV])
  rw [if_neg (of_decide_eq_false h)] at hq
  have l1 := jS a
  have l2 := jS b
  have l3 := je a
  have l4 := je b
  have l5 := qx (denR a) (numR b)
  have l6 := qx (numR a) (denR b)
  refine ⟨(numR a, denR b), ⟨⟨rfl, rfl, trivial⟩, by simp only; omega, by simp only; omega⟩, ⟨_, rfl⟩, ?_⟩
  rintro _ rfl
  refine ⟨(denR a, numR b), ⟨⟨rfl, rfl, trivial⟩, by simp only; omega, by simp only; omega⟩, ⟨_, rfl⟩, ?_⟩
  rintro _ rfl
  refine ⟨⟨_, _, _, _⟩, ⟨⟨rfl, rfl, ⟨rfl, rfl⟩, ⟨rfl, rfl⟩, trivial⟩, Nat.lt_of_le_of_lt (qx _ _) (by decide), Nat.lt_of_le_of_lt (qx _ _) (by decide)⟩, ⟨_, rfl⟩, ?_⟩
  rintro _ rfl
  exact RetR.scal hq rfl (by simp [resV])
 ·rw [if_pos he] at hq ⊢
  refine ⟨fun _ => RetR.scal hq rfl (by simp [resV]), fun h => (by simp [he] at h)⟩
noncomputable def GRi : Nat → Option Ctr := fun f => if f = 95 then some (JD) else if f = 76 then some (VW) else if f = 28 then some (Um) else none
theorem zcs : ∀ g c, GRi g = some c → zd Try.prog g c := okIf ZE (okIf JR (okIf zai (zq)))
theorem UX : zd Try.prog 77 Ym := by
 refine zg (fn := Try.f77) (c := Try.f77.body.getD .skip) rfl rfl rfl fun p hp O w0 Q hq => ?_
 obtain ⟨a, b⟩ := p
 obtain ⟨ha, hb⟩ := hp
 replace hq := hq _ rfl
 simp only at ha hb hq
 refine zb.run hmix zcs [] 400 (T := .ex (fun (x : List UInt8 × List UInt8) => eqL [AV.str a, AV.str b] [AV.str x.1, AV.str x.2] ∧ x.1.length < 1099511627776 ∧ x.2.length < 1099511627776) fun n => .all (fun (r : Q4) => r = vX n.1 n.2) fun n => .ite (!decide (Q4.e n = 0)) (.leaf (.ret [.str (Array.toList #[]), .int .i64 n.e] [])) (.ex (fun (x : List UInt8) => eqL [AV.str b] [AV.str x] ∧ 0 < x.length ∧ x.length < 1099511627776) fun n => .all (fun (r : List UInt8) => r = negS n) fun n => .ex (fun (x : List UInt8 × List UInt8) => eqL [AV.str a, AV.str n] [AV.str x.1, AV.str x.2] ∧ x.1.length < 549755813888 ∧ x.2.length < 549755813888) fun n => .all (fun (r : List UInt8 × Int) => r = addR n.1 n.2) fun n => .leaf (.ret [.str n.1, .int .i64 n.2] []))) (by kernel_rfl) ?_
 simp only [Tree.holds, zc]
 refine ⟨(a, b), ⟨⟨rfl, rfl, trivial⟩, by show a.length < _; omega, by show b.length < _; omega⟩, ⟨_, rfl⟩, ?_⟩
 rintro _ rfl
 simp only [vX]
 by_cases he : zO a b = 0
 ·rw [if_neg (by rw [he]; simp)]
  refine ⟨fun h => (by cases h), fun _ => ?_⟩
  have hab : errR a = 0 ∧ errR b = 0 := by
   unfold zO at he
   split at he
   ·rename_i h; exact ⟨h, he⟩
   ·rename_i h; exact absurd he h
  have hb0 : 0 < b.length := by
   refine List.length_pos_iff.2 ?_
   rintro rfl
   exact absurd hab.2 (by decide)
  have hnl : (negS b).length ≤ b.length + 1 := by
   unfold negS
   split
   ·omega
   ·split <;> simp <;> omega
  refine ⟨b, ⟨by simp, hb0, by omega⟩, ⟨_, rfl⟩, ?_⟩
  rintro _ rfl
  refine ⟨(a, negS b), ⟨⟨rfl, rfl, trivial⟩, by show a.length < _; omega, by simp only; omega⟩, ⟨_, rfl⟩, ?_⟩
  rintro _ rfl
  rw [← sub_neg hab.1 hab.2] at hq
  exact RetR.scal hq rfl (by simp [resV])
 ·rw [if_pos he]
  have e : subR a b = ([], zO a b) := by
   have : zK a b = zO a b := by unfold zK; rw [if_pos he]
   unfold subR
   rw [this, if_pos he]
  rw [e] at hq
  refine ⟨fun _ => RetR.scal hq rfl (by simp [resV]), fun h => (by simp [he] at h)⟩
end Go.Proofs.Try
end

/- The reference's tapes: checks, runs. -/
section
set_option maxRecDepth 100000
open Go Go.Sx Go.Proofs Go.Nov
namespace Go.Proofs.Try
attribute [local simp] eqKV eqA eqA0 eqH eqB eqL eqL0
noncomputable def K18 : List Go.Sx.Item := [.code (Try.f18.body.getD .skip)]
noncomputable def K33 : List Go.Sx.Item := [.code (Try.f33.body.getD .skip)]
noncomputable def tInI : Ctr := inlC Try.prog noG 100 Try.f36
theorem VG : zd Try.prog 36 tInI := xk hmix zy rfl rfl
noncomputable def GU1 : Nat → Option Ctr := fun f => if f = 36 then some (tInI) else if f = 32 then some (ye) else none
theorem zdd : ∀ g c, GU1 g = some c → zd Try.prog g c := okIf VG (okIf x5 (zq))
noncomputable def Ui : Ctr := inlC Try.prog GU1 100 Try.f37
theorem Y6 : zd Try.prog 37 Ui := xk hmix zdd rfl rfl
def yh : Ctr := ctrP true (fun t : Tp => [t.av]) (fun t => t.ops.length < 2 ^ 40 ∧ ∀ j, j < t.ops.length → (t.ops.getD j TOp.nil).rat.length < 2 ^ 40) (fun t r => r = zp t) (fun _ (r : Int) => (.int .i64 r, []))
def StCk (i : Nat) : KV := [(1, .ptr 0 0), (3, .int .i64 (i : Int))]
noncomputable def GU2 : Nat → Option Ctr := fun f => if f = 36 then some (tInI) else if f = 37 then some (Ui) else none
theorem Us : ∀ g c, GU2 g = some c → zd Try.prog g c := okIf VG (okIf Y6 (zq))
theorem y8 : zd Try.prog 18 yh := by
 refine zg (fn := Try.f18) (c := Try.f18.body.getD .skip) rfl rfl rfl fun p hp O w0 Q hq => ?_
 obtain ⟨n, ops⟩ := p
 obtain ⟨h1, h2⟩ := hp
 replace hq := hq _ rfl
 simp only at h1 h2 hq
 refine zb.run hmix Us [1, 3] 400 (T := .ite (decide ((500 : Int) < ops.length)) (.leaf (.ret [.int .i64 4] [.box [.int .i64 n, .sl ops.length 4 (opG ops)]])) (.ite (bif !bif decide ((0 : Int) ≤ n) then decide (n ≤ 500) else false then true else decide ((↑ops.length : Int) = 0)) (.leaf (.ret [.int .i64 8] [.box [.int .i64 n, .sl ops.length 4 (opG ops)]])) (.leaf (.loop (Prod.fst (lps K18 0)) (Prod.snd (lps K18 0)) [(1, .ptr 0 0), (3, .int .i64 0)] [.box [.int .i64 n, .sl ops.length 4 (opG ops)]])))) (by kernel_rfl) ?_
 simp only [Tree.holds, zc]
 refine ⟨fun h => ?_, fun h => ⟨fun h3 => ?_, fun h3 => ?_⟩⟩
 ·have h : 500 < ops.length := by have := of_decide_eq_true h; omega
  have e : zp ⟨n, ops⟩ = 4 := by unfold zp; rw [if_pos h]
  rw [e] at hq
  exact RetR.scal hq rfl (by simp [resV])
 ·have hl : ¬ 500 < ops.length := by have := of_decide_eq_false h; omega
  have hb : vw ⟨n, ops⟩ = false := by
   unfold vw
   by_cases g1 : 0 ≤ n
   ·by_cases g2 : n ≤ 500
    ·rw [decide_eq_true g1, decide_eq_true g2] at h3
     have h3 : (ops.length : Int) = 0 := of_decide_eq_true h3
     rw [decide_eq_false (show ¬ 0 < ops.length by omega), Bool.and_false]
    ·rw [decide_eq_false g2, Bool.and_false, Bool.false_and]
   ·rw [decide_eq_false g1, Bool.false_and, Bool.false_and]
  have e : zp ⟨n, ops⟩ = 8 := by unfold zp; rw [if_neg hl, hb]; rfl
  rw [e] at hq
  exact RetR.scal hq rfl (by simp [resV])
 have hl : ¬ 500 < ops.length := by have := of_decide_eq_false h; omega
 have hb : vw ⟨n, ops⟩ = true := by
  unfold vw
  by_cases g1 : 0 ≤ n
  ·by_cases g2 : n ≤ 500
   ·rw [decide_eq_true g1, decide_eq_true g2] at h3 ⊢
    have h3 : ¬ (ops.length : Int) = 0 := of_decide_eq_false h3
    rw [decide_eq_true (show 0 < ops.length by omega)]; rfl
   ·rw [decide_eq_true g1, decide_eq_false g2] at h3; cases h3
  ·rw [decide_eq_false g1] at h3; cases h3
 have hn0 : 0 ≤ n ∧ n ≤ 500 := by
  unfold vw at hb
  simp only [Bool.and_eq_true, decide_eq_true_eq] at hb
  exact hb.1
 have hck : zp ⟨n, ops⟩ = if qU ⟨n, ops⟩ ops.length = true then 0 else 8 := by unfold zp; rw [if_neg hl, hb, Bool.true_and]
 refine zb.loop (ι := {i : Nat // i ≤ ops.length ∧ qU ⟨n, ops⟩ i = true}) (fun i => StCk i.1) (fun _ => HbRn n ops) (fun i => ops.length - i.1) ⟨0, Nat.zero_le _, rfl⟩ 0 ?_ ?_ (by kernel_rfl)
 ·exact ⟨by simp [StCk], by simp [HbRn, opS, za], by kernel_rfl, Nat.zero_le _⟩
 rintro ⟨i, hil, hio⟩
 refine zb.run hmix Us [1, 3] 400 (T := .ite (decide ((↑i : Int) < ops.length)) (.side ((0 : Int) ≤ i ∧ (↑i : Int) < ops.length) (.ite (decide (TOp.kind (List.getD ops (Int.toNat (↑i : Int)) TOp.nil) = (1 : Int))) (.side (inR .i64 (n - (1 : Int))) (.ite (!bif bif bif decide ((0 : Int) ≤ TOp.a (List.getD ops (Int.toNat (↑i : Int)) TOp.nil)) then decide (TOp.a (List.getD ops (Int.toNat (↑i : Int)) TOp.nil) ≤ n - (1 : Int)) else false then decide (TOp.b (List.getD ops (Int.toNat (↑i : Int)) TOp.nil) = (0 : Int)) else false then decide (TOp.rat (List.getD ops (Int.toNat (↑i : Int)) TOp.nil) = Array.toList #[]) else false) (.leaf (.ret [.int .i64 8] [.box [.int .i64 n, .sl ops.length 4 (opG ops)], .box [.int .i64 n, .sl ops.length 4 (opG ops)], .box [.int .u8 (TOp.kind (List.getD ops (Int.toNat (↑i : Int)) TOp.nil)), .int .i64 (TOp.a (List.getD ops (Int.toNat (↑i : Int)) TOp.nil)), .int .i64 (TOp.b (List.getD ops (Int.toNat (↑i : Int)) TOp.nil)), .str (TOp.rat (List.getD ops (Int.toNat (↑i : Int)) TOp.nil))]])) (.side (inR .i64 ((↑i : Int) + (1 : Int))) (.leaf (.back 0 [(1, .ptr 0 0), (3, .int .i64 ((↑i : Int) + (1 : Int)))] [.box [.int .i64 n, .sl ops.length 4 (opG ops)], .box [.int .i64 n, .sl ops.length 4 (opG ops)], .box [.int .u8 (TOp.kind (List.getD ops (Int.toNat (↑i : Int)) TOp.nil)), .int .i64 (TOp.a (List.getD ops (Int.toNat (↑i : Int)) TOp.nil)), .int .i64 (TOp.b (List.getD ops (Int.toNat (↑i : Int)) TOp.nil)), .str (TOp.rat (List.getD ops (Int.toNat (↑i : Int)) TOp.nil))]]))))) (.ite (decide (TOp.kind (List.getD ops (Int.toNat (↑i : Int)) TOp.nil) = (2 : Int))) (.ex (fun (x : List UInt8) => (bif decide (TOp.a (List.getD ops (Int.toNat (↑i : Int)) TOp.nil) = (0 : Int)) then decide (TOp.b (List.getD ops (Int.toNat (↑i : Int)) TOp.nil) = (0 : Int)) else false) = true → eqL [AV.str (TOp.rat (List.getD ops (Int.toNat (↑i : Int)) TOp.nil))] [AV.str x] ∧ x.length < 1099511627776) fun n_1 => .all (fun (x : Int) => (bif decide (TOp.a (List.getD ops (Int.toNat (↑i : Int)) TOp.nil) = (0 : Int)) then decide (TOp.b (List.getD ops (Int.toNat (↑i : Int)) TOp.nil) = (0 : Int)) else false) = true → x = errR n_1) fun n_2 => .ite (!bif bif decide (TOp.a (List.getD ops (Int.toNat (↑i : Int)) TOp.nil) = (0 : Int)) then decide (TOp.b (List.getD ops (Int.toNat (↑i : Int)) TOp.nil) = (0 : Int)) else false then decide (n_2 = 0) else false) (.leaf (.ret [.int .i64 8] [.box [.int .i64 n, .sl ops.length 4 (opG ops)], .box [.int .i64 n, .sl ops.length 4 (opG ops)], .box [.int .u8 (TOp.kind (List.getD ops (Int.toNat (↑i : Int)) TOp.nil)), .int .i64 (TOp.a (List.getD ops (Int.toNat (↑i : Int)) TOp.nil)), .int .i64 (TOp.b (List.getD ops (Int.toNat (↑i : Int)) TOp.nil)), .str (TOp.rat (List.getD ops (Int.toNat (↑i : Int)) TOp.nil))]])) (.side (inR .i64 ((↑i : Int) + (1 : Int))) (.leaf (.back 0 [(1, .ptr 0 0), (3, .int .i64 ((↑i : Int) + (1 : Int)))] [.box [.int .i64 n, .sl ops.length 4 (opG ops)], .box [.int .i64 n, .sl ops.length 4 (opG ops)], .box [.int .u8 (TOp.kind (List.getD ops (Int.toNat (↑i : Int)) TOp.nil)), .int .i64 (TOp.a (List.getD ops (Int.toNat (↑i : Int)) TOp.nil)), .int .i64 (TOp.b (List.getD ops (Int.toNat (↑i : Int)) TOp.nil)), .str (TOp.rat (List.getD ops (Int.toNat (↑i : Int)) TOp.nil))]])))) (.ite (decide (TOp.kind (List.getD ops (Int.toNat (↑i : Int)) TOp.nil) = (3 : Int))) (.ite (decide (TOp.kind (List.getD ops (Int.toNat (↑i : Int)) TOp.nil) = (3 : Int))) (.side (inR .i64 ((↑i : Int) - (1 : Int))) (.side ((bif decide ((0 : Int) ≤ TOp.a (List.getD ops (Int.toNat (↑i : Int)) TOp.nil)) then decide (TOp.a (List.getD ops (Int.toNat (↑i : Int)) TOp.nil) ≤ (↑i : Int) - (1 : Int)) else false) = true → inR .i64 ((↑i : Int) - (1 : Int))) (.ite (!bif bif bif decide ((0 : Int) ≤ TOp.a (List.getD ops (Int.toNat (↑i : Int)) TOp.nil)) then decide (TOp.a (List.getD ops (Int.toNat (↑i : Int)) TOp.nil) ≤ (↑i : Int) - (1 : Int)) else false then bif decide ((0 : Int) ≤ TOp.b (List.getD ops (Int.toNat (↑i : Int)) TOp.nil)) then decide (TOp.b (List.getD ops (Int.toNat (↑i : Int)) TOp.nil) ≤ (↑i : Int) - (1 : Int)) else false else false then decide (TOp.rat (List.getD ops (Int.toNat (↑i : Int)) TOp.nil) = Array.toList #[]) else false) (.leaf (.ret [.int .i64 8] [.box [.int .i64 n, .sl ops.length 4 (opG ops)], .box [.int .i64 n, .sl ops.length 4 (opG ops)], .box [.int .u8 (TOp.kind (List.getD ops (Int.toNat (↑i : Int)) TOp.nil)), .int .i64 (TOp.a (List.getD ops (Int.toNat (↑i : Int)) TOp.nil)), .int .i64 (TOp.b (List.getD ops (Int.toNat (↑i : Int)) TOp.nil)), .str (TOp.rat (List.getD ops (Int.toNat (↑i : Int)) TOp.nil))]])) (.side (inR .i64 ((↑i : Int) + (1 : Int))) (.leaf (.back 0 [(1, .ptr 0 0), (3, .int .i64 ((↑i : Int) + (1 : Int)))] [.box [.int .i64 n, .sl ops.length 4 (opG ops)], .box [.int .i64 n, .sl ops.length 4 (opG ops)], .box [.int .u8 (TOp.kind (List.getD ops (Int.toNat (↑i : Int)) TOp.nil)), .int .i64 (TOp.a (List.getD ops (Int.toNat (↑i : Int)) TOp.nil)), .int .i64 (TOp.b (List.getD ops (Int.toNat (↑i : Int)) TOp.nil)), .str (TOp.rat (List.getD ops (Int.toNat (↑i : Int)) TOp.nil))]])))))) (.ite true (.leaf (.ret [.int .i64 8] [.box [.int .i64 n, .sl ops.length 4 (opG ops)], .box [.int .i64 n, .sl ops.length 4 (opG ops)], .box [.int .u8 (TOp.kind (List.getD ops (Int.toNat (↑i : Int)) TOp.nil)), .int .i64 (TOp.a (List.getD ops (Int.toNat (↑i : Int)) TOp.nil)), .int .i64 (TOp.b (List.getD ops (Int.toNat (↑i : Int)) TOp.nil)), .str (TOp.rat (List.getD ops (Int.toNat (↑i : Int)) TOp.nil))]])) (.side (inR .i64 ((↑i : Int) + (1 : Int))) (.leaf (.back 0 [(1, .ptr 0 0), (3, .int .i64 ((↑i : Int) + (1 : Int)))] [.box [.int .i64 n, .sl ops.length 4 (opG ops)], .box [.int .i64 n, .sl ops.length 4 (opG ops)], .box [.int .u8 (TOp.kind (List.getD ops (Int.toNat (↑i : Int)) TOp.nil)), .int .i64 (TOp.a (List.getD ops (Int.toNat (↑i : Int)) TOp.nil)), .int .i64 (TOp.b (List.getD ops (Int.toNat (↑i : Int)) TOp.nil)), .str (TOp.rat (List.getD ops (Int.toNat (↑i : Int)) TOp.nil))]]))))) (.ite (decide (TOp.kind (List.getD ops (Int.toNat (↑i : Int)) TOp.nil) = (4 : Int))) (.ite (decide (TOp.kind (List.getD ops (Int.toNat (↑i : Int)) TOp.nil) = (4 : Int))) (.side (inR .i64 ((↑i : Int) - (1 : Int))) (.side ((bif decide ((0 : Int) ≤ TOp.a (List.getD ops (Int.toNat (↑i : Int)) TOp.nil)) then decide (TOp.a (List.getD ops (Int.toNat (↑i : Int)) TOp.nil) ≤ (↑i : Int) - (1 : Int)) else false) = true → inR .i64 ((↑i : Int) - (1 : Int))) (.ite (!bif bif bif decide ((0 : Int) ≤ TOp.a (List.getD ops (Int.toNat (↑i : Int)) TOp.nil)) then decide (TOp.a (List.getD ops (Int.toNat (↑i : Int)) TOp.nil) ≤ (↑i : Int) - (1 : Int)) else false then bif decide ((0 : Int) ≤ TOp.b (List.getD ops (Int.toNat (↑i : Int)) TOp.nil)) then decide (TOp.b (List.getD ops (Int.toNat (↑i : Int)) TOp.nil) ≤ (↑i : Int) - (1 : Int)) else false else false then decide (TOp.rat (List.getD ops (Int.toNat (↑i : Int)) TOp.nil) = Array.toList #[]) else false) (.leaf (.ret [.int .i64 8] [.box [.int .i64 n, .sl ops.length 4 (opG ops)], .box [.int .i64 n, .sl ops.length 4 (opG ops)], .box [.int .u8 (TOp.kind (List.getD ops (Int.toNat (↑i : Int)) TOp.nil)), .int .i64 (TOp.a (List.getD ops (Int.toNat (↑i : Int)) TOp.nil)), .int .i64 (TOp.b (List.getD ops (Int.toNat (↑i : Int)) TOp.nil)), .str (TOp.rat (List.getD ops (Int.toNat (↑i : Int)) TOp.nil))]])) (.side (inR .i64 ((↑i : Int) + (1 : Int))) (.leaf (.back 0 [(1, .ptr 0 0), (3, .int .i64 ((↑i : Int) + (1 : Int)))] [.box [.int .i64 n, .sl ops.length 4 (opG ops)], .box [.int .i64 n, .sl ops.length 4 (opG ops)], .box [.int .u8 (TOp.kind (List.getD ops (Int.toNat (↑i : Int)) TOp.nil)), .int .i64 (TOp.a (List.getD ops (Int.toNat (↑i : Int)) TOp.nil)), .int .i64 (TOp.b (List.getD ops (Int.toNat (↑i : Int)) TOp.nil)), .str (TOp.rat (List.getD ops (Int.toNat (↑i : Int)) TOp.nil))]])))))) (.ite true (.leaf (.ret [.int .i64 8] [.box [.int .i64 n, .sl ops.length 4 (opG ops)], .box [.int .i64 n, .sl ops.length 4 (opG ops)], .box [.int .u8 (TOp.kind (List.getD ops (Int.toNat (↑i : Int)) TOp.nil)), .int .i64 (TOp.a (List.getD ops (Int.toNat (↑i : Int)) TOp.nil)), .int .i64 (TOp.b (List.getD ops (Int.toNat (↑i : Int)) TOp.nil)), .str (TOp.rat (List.getD ops (Int.toNat (↑i : Int)) TOp.nil))]])) (.side (inR .i64 ((↑i : Int) + (1 : Int))) (.leaf (.back 0 [(1, .ptr 0 0), (3, .int .i64 ((↑i : Int) + (1 : Int)))] [.box [.int .i64 n, .sl ops.length 4 (opG ops)], .box [.int .i64 n, .sl ops.length 4 (opG ops)], .box [.int .u8 (TOp.kind (List.getD ops (Int.toNat (↑i : Int)) TOp.nil)), .int .i64 (TOp.a (List.getD ops (Int.toNat (↑i : Int)) TOp.nil)), .int .i64 (TOp.b (List.getD ops (Int.toNat (↑i : Int)) TOp.nil)), .str (TOp.rat (List.getD ops (Int.toNat (↑i : Int)) TOp.nil))]]))))) (.ite (decide (TOp.kind (List.getD ops (Int.toNat (↑i : Int)) TOp.nil) = (5 : Int))) (.ite (decide (TOp.kind (List.getD ops (Int.toNat (↑i : Int)) TOp.nil) = (5 : Int))) (.side (inR .i64 ((↑i : Int) - (1 : Int))) (.side ((bif decide ((0 : Int) ≤ TOp.a (List.getD ops (Int.toNat (↑i : Int)) TOp.nil)) then decide (TOp.a (List.getD ops (Int.toNat (↑i : Int)) TOp.nil) ≤ (↑i : Int) - (1 : Int)) else false) = true → inR .i64 ((↑i : Int) - (1 : Int))) (.ite (!bif bif bif decide ((0 : Int) ≤ TOp.a (List.getD ops (Int.toNat (↑i : Int)) TOp.nil)) then decide (TOp.a (List.getD ops (Int.toNat (↑i : Int)) TOp.nil) ≤ (↑i : Int) - (1 : Int)) else false then bif decide ((0 : Int) ≤ TOp.b (List.getD ops (Int.toNat (↑i : Int)) TOp.nil)) then decide (TOp.b (List.getD ops (Int.toNat (↑i : Int)) TOp.nil) ≤ (↑i : Int) - (1 : Int)) else false else false then decide (TOp.rat (List.getD ops (Int.toNat (↑i : Int)) TOp.nil) = Array.toList #[]) else false) (.leaf (.ret [.int .i64 8] [.box [.int .i64 n, .sl ops.length 4 (opG ops)], .box [.int .i64 n, .sl ops.length 4 (opG ops)], .box [.int .u8 (TOp.kind (List.getD ops (Int.toNat (↑i : Int)) TOp.nil)), .int .i64 (TOp.a (List.getD ops (Int.toNat (↑i : Int)) TOp.nil)), .int .i64 (TOp.b (List.getD ops (Int.toNat (↑i : Int)) TOp.nil)), .str (TOp.rat (List.getD ops (Int.toNat (↑i : Int)) TOp.nil))]])) (.side (inR .i64 ((↑i : Int) + (1 : Int))) (.leaf (.back 0 [(1, .ptr 0 0), (3, .int .i64 ((↑i : Int) + (1 : Int)))] [.box [.int .i64 n, .sl ops.length 4 (opG ops)], .box [.int .i64 n, .sl ops.length 4 (opG ops)], .box [.int .u8 (TOp.kind (List.getD ops (Int.toNat (↑i : Int)) TOp.nil)), .int .i64 (TOp.a (List.getD ops (Int.toNat (↑i : Int)) TOp.nil)), .int .i64 (TOp.b (List.getD ops (Int.toNat (↑i : Int)) TOp.nil)), .str (TOp.rat (List.getD ops (Int.toNat (↑i : Int)) TOp.nil))]])))))) (.ite true (.leaf (.ret [.int .i64 8] [.box [.int .i64 n, .sl ops.length 4 (opG ops)], .box [.int .i64 n, .sl ops.length 4 (opG ops)], .box [.int .u8 (TOp.kind (List.getD ops (Int.toNat (↑i : Int)) TOp.nil)), .int .i64 (TOp.a (List.getD ops (Int.toNat (↑i : Int)) TOp.nil)), .int .i64 (TOp.b (List.getD ops (Int.toNat (↑i : Int)) TOp.nil)), .str (TOp.rat (List.getD ops (Int.toNat (↑i : Int)) TOp.nil))]])) (.side (inR .i64 ((↑i : Int) + (1 : Int))) (.leaf (.back 0 [(1, .ptr 0 0), (3, .int .i64 ((↑i : Int) + (1 : Int)))] [.box [.int .i64 n, .sl ops.length 4 (opG ops)], .box [.int .i64 n, .sl ops.length 4 (opG ops)], .box [.int .u8 (TOp.kind (List.getD ops (Int.toNat (↑i : Int)) TOp.nil)), .int .i64 (TOp.a (List.getD ops (Int.toNat (↑i : Int)) TOp.nil)), .int .i64 (TOp.b (List.getD ops (Int.toNat (↑i : Int)) TOp.nil)), .str (TOp.rat (List.getD ops (Int.toNat (↑i : Int)) TOp.nil))]]))))) (.ite (decide (TOp.kind (List.getD ops (Int.toNat (↑i : Int)) TOp.nil) = (6 : Int))) (.side (inR .i64 ((↑i : Int) - (1 : Int))) (.side ((bif decide ((0 : Int) ≤ TOp.a (List.getD ops (Int.toNat (↑i : Int)) TOp.nil)) then decide (TOp.a (List.getD ops (Int.toNat (↑i : Int)) TOp.nil) ≤ (↑i : Int) - (1 : Int)) else false) = true → inR .i64 ((↑i : Int) - (1 : Int))) (.ite (!bif bif bif decide ((0 : Int) ≤ TOp.a (List.getD ops (Int.toNat (↑i : Int)) TOp.nil)) then decide (TOp.a (List.getD ops (Int.toNat (↑i : Int)) TOp.nil) ≤ (↑i : Int) - (1 : Int)) else false then bif decide ((0 : Int) ≤ TOp.b (List.getD ops (Int.toNat (↑i : Int)) TOp.nil)) then decide (TOp.b (List.getD ops (Int.toNat (↑i : Int)) TOp.nil) ≤ (↑i : Int) - (1 : Int)) else false else false then decide (TOp.rat (List.getD ops (Int.toNat (↑i : Int)) TOp.nil) = Array.toList #[]) else false) (.leaf (.ret [.int .i64 8] [.box [.int .i64 n, .sl ops.length 4 (opG ops)], .box [.int .i64 n, .sl ops.length 4 (opG ops)], .box [.int .u8 (TOp.kind (List.getD ops (Int.toNat (↑i : Int)) TOp.nil)), .int .i64 (TOp.a (List.getD ops (Int.toNat (↑i : Int)) TOp.nil)), .int .i64 (TOp.b (List.getD ops (Int.toNat (↑i : Int)) TOp.nil)), .str (TOp.rat (List.getD ops (Int.toNat (↑i : Int)) TOp.nil))]])) (.side (inR .i64 ((↑i : Int) + (1 : Int))) (.leaf (.back 0 [(1, .ptr 0 0), (3, .int .i64 ((↑i : Int) + (1 : Int)))] [.box [.int .i64 n, .sl ops.length 4 (opG ops)], .box [.int .i64 n, .sl ops.length 4 (opG ops)], .box [.int .u8 (TOp.kind (List.getD ops (Int.toNat (↑i : Int)) TOp.nil)), .int .i64 (TOp.a (List.getD ops (Int.toNat (↑i : Int)) TOp.nil)), .int .i64 (TOp.b (List.getD ops (Int.toNat (↑i : Int)) TOp.nil)), .str (TOp.rat (List.getD ops (Int.toNat (↑i : Int)) TOp.nil))]])))))) (.ite true (.leaf (.ret [.int .i64 8] [.box [.int .i64 n, .sl ops.length 4 (opG ops)], .box [.int .i64 n, .sl ops.length 4 (opG ops)], .box [.int .u8 (TOp.kind (List.getD ops (Int.toNat (↑i : Int)) TOp.nil)), .int .i64 (TOp.a (List.getD ops (Int.toNat (↑i : Int)) TOp.nil)), .int .i64 (TOp.b (List.getD ops (Int.toNat (↑i : Int)) TOp.nil)), .str (TOp.rat (List.getD ops (Int.toNat (↑i : Int)) TOp.nil))]])) (.side (inR .i64 ((↑i : Int) + (1 : Int))) (.leaf (.back 0 [(1, .ptr 0 0), (3, .int .i64 ((↑i : Int) + (1 : Int)))] [.box [.int .i64 n, .sl ops.length 4 (opG ops)], .box [.int .i64 n, .sl ops.length 4 (opG ops)], .box [.int .u8 (TOp.kind (List.getD ops (Int.toNat (↑i : Int)) TOp.nil)), .int .i64 (TOp.a (List.getD ops (Int.toNat (↑i : Int)) TOp.nil)), .int .i64 (TOp.b (List.getD ops (Int.toNat (↑i : Int)) TOp.nil)), .str (TOp.rat (List.getD ops (Int.toNat (↑i : Int)) TOp.nil))]]))))))))))) (.leaf (.ret [.int .i64 0] [.box [.int .i64 n, .sl ops.length 4 (opG ops)]]))) (by kernel_rfl) ?_
 simp only [Tree.holds, zc, inR, lo, hi, Int.toNat_natCast]
 refine ⟨fun hlt => ?_, fun hge => ?_⟩
 ·have hlt : i < ops.length := by have := of_decide_eq_true hlt; omega
  have hsm := h2 i hlt
  have hs := Zp ⟨n, ops⟩ i
  rw [hio, Bool.true_and] at hs
  simp only at hs
  obtain ⟨o, ho⟩ : ∃ o, ops.getD i TOp.nil = o := ⟨_, rfl⟩
  rw [ho] at hs hsm
  simp only [ho]
  have key : ∀ (b : Bool) (X Y : Heap), b = okOp n i o → ((!b) = true → RetR yh 0 Q [.int .i64 8] X) ∧ ((!b) = false → (-9223372036854775808 ≤ (i : Int) + 1 ∧ (i : Int) + 1 ≤ 9223372036854775807) ∧ (-9223372036854775808 ≤ (i : Int) + 1 ∧ (i : Int) + 1 ≤ 9223372036854775807 → if True then
    ∃ x' : {i : Nat // i ≤ ops.length ∧ qU ⟨n, ops⟩ i = true}, ops.length - x'.1 < ops.length - i ∧ LeK 0 Try.f18.ntmps [(1, .ptr 0 0), (3, .int .i64 ((i : Int) + 1))] ([.box [.int .i64 n, opS ops]] ++ Y) (StCk x'.1) (HbRn n ops) else False)) := by
   rintro b X Y rfl
   refine ⟨fun h => ?_, fun h => ⟨by omega, fun _ => ?_⟩⟩
   ·have h : okOp n i o = false := by simpa using h
    rw [h] at hs
    have e : qU ⟨n, ops⟩ ops.length = false := by
     cases hc : qU ⟨n, ops⟩ ops.length with
     | false => rfl
     | true => rw [Km _ (show i + 1 ≤ ops.length from hlt) hc] at hs; cases hs
    rw [hck, e, if_neg (by decide)] at hq
    exact RetR.scal hq rfl (by simp [resV])
   ·have h : okOp n i o = true := by simpa using h
    rw [if_pos trivial]
    exact ⟨⟨i + 1, hlt, by rw [hs, h]⟩, by show ops.length - (i + 1) < ops.length - i; omega, by simp [StCk], ⟨by simp [opS, za], by cases Y <;> trivial⟩, by kernel_rfl, Nat.zero_le _⟩
  have cut : ∀ (a b : Int), (bif decide (0 ≤ a) then decide (a ≤ b - 1) else false) = (decide (0 ≤ a) && decide (a < b)) := fun a b => by
   rw [show decide (a ≤ b - 1) = decide (a < b) from decide_eq_decide.2 (by omega)]
   cases decide (0 ≤ a) <;> rfl
  have ar : (o.kind = 3 ∨ o.kind = 4 ∨ o.kind = 5 ∨ o.kind = 6) → (bif bif bif decide (0 ≤ o.a) then decide (o.a ≤ (i : Int) - 1) else false then bif decide (0 ≤ o.b) then decide (o.b ≤ (i : Int) - 1) else false else false then decide (o.rat = []) else false) = okOp n i o := by
   intro hk
   unfold okOp
   rw [if_neg (by omega), if_neg (by omega), if_pos (by omega), cut, cut]
   cases (decide (0 ≤ o.a) && decide (o.a < (i : Int))) <;> cases (decide (0 ≤ o.b) && decide (o.b < (i : Int))) <;> rfl
  refine ⟨by omega, fun _ => ⟨fun k1 => ⟨by omega, fun _ => ?_⟩, fun k1 => ⟨fun k2 => ?_, fun k2 => ⟨fun k3 => ⟨fun _ => ⟨by omega, fun _ => ⟨fun _ => by omega, fun _ => ?_⟩⟩, fun k => absurd (k3.symm.trans k) (by decide)⟩, fun k3 => ⟨fun k4 => ⟨fun _ => ⟨by omega, fun _ => ⟨fun _ => by omega, fun _ => ?_⟩⟩, fun k => absurd (k4.symm.trans k) (by decide)⟩, fun k4 => ⟨fun k5 => ⟨fun _ => ⟨by omega, fun _ => ⟨fun _ => by omega, fun _ => ?_⟩⟩, fun k => absurd (k5.symm.trans k) (by decide)⟩, fun k5 => ⟨fun k6 => ⟨by omega, fun _ => ⟨fun _ => by omega, fun _ => ?_⟩⟩, fun k6 => ?_⟩⟩⟩⟩⟩⟩⟩
  ·have k1 := of_decide_eq_true k1
   refine key _ _ [_, _] ?_
   unfold okOp
   rw [if_pos k1, cut]
   cases (decide (0 ≤ o.a) && decide (o.a < n)) <;> cases decide (o.b = 0) <;> rfl
  ·have k1 := of_decide_eq_false k1
   have k2 := of_decide_eq_true k2
   refine ⟨o.rat, fun _ => ⟨⟨rfl, trivial⟩, by omega⟩, ⟨_, fun _ => rfl⟩, fun e he => ?_⟩
   refine key _ _ [_, _] ?_
   unfold okOp
   rw [if_neg k1, if_pos k2]
   cases hab : (bif decide (o.a = 0) then decide (o.b = 0) else false) with
   | true =>
    rw [he hab, show (decide (errR o.rat = 0) && decide (o.a = 0) && decide (o.b = 0)) = (decide (errR o.rat = 0) && (decide (o.a = 0) && decide (o.b = 0))) from Bool.and_assoc _ _ _]
    rw [show (decide (o.a = 0) && decide (o.b = 0)) = true from by rw [← hab]; cases decide (o.a = 0) <;> rfl, Bool.and_true]; rfl
   | false =>
    rw [show (decide (errR o.rat = 0) && decide (o.a = 0) && decide (o.b = 0)) = (decide (errR o.rat = 0) && (decide (o.a = 0) && decide (o.b = 0))) from Bool.and_assoc _ _ _]
    rw [show (decide (o.a = 0) && decide (o.b = 0)) = false from by rw [← hab]; cases decide (o.a = 0) <;> rfl, Bool.and_false]; rfl
  ·exact key _ _ [_, _] (ar (.inl (of_decide_eq_true k3)))
  ·exact key _ _ [_, _] (ar (.inr (.inl (of_decide_eq_true k4))))
  ·exact key _ _ [_, _] (ar (.inr (.inr (.inl (of_decide_eq_true k5)))))
  ·exact key _ _ [_, _] (ar (.inr (.inr (.inr (of_decide_eq_true k6)))))
  ·have k1 := of_decide_eq_false k1
   have k2 := of_decide_eq_false k2
   have k3 := of_decide_eq_false k3
   have k4 := of_decide_eq_false k4
   have k5 := of_decide_eq_false k5
   have k6 := of_decide_eq_false k6
   have := key false [.box [.int .i64 n, opS ops], .box [.int .i64 n, opS ops], .box [.int .u8 o.kind, .int .i64 o.a, .int .i64 o.b, .str o.rat]] [.box [.int .i64 n, opS ops], .box [.int .u8 o.kind, .int .i64 o.a, .int .i64 o.b, .str o.rat]] (by unfold okOp; rw [if_neg k1, if_neg k2, if_neg (by omega)])
   exact ⟨fun _ => this.1 rfl, fun h => (by cases h)⟩
 ·have hge : i = ops.length := by have := of_decide_eq_false hge; omega
  subst hge
  rw [hck, if_pos hio] at hq
  exact RetR.scal hq rfl (by simp [resV])
noncomputable def GU3 : Nat → Option Ctr := fun f => if f = 76 then some (VW) else if f = 77 then some (Ym) else if f = 78 then some (Un) else if f = 79 then some (zao) else none
theorem zd2 : ∀ g c, GU3 g = some c → zd Try.prog g c := okIf JR (okIf UX (okIf Y5 (okIf UU (zq))))
noncomputable def Xc : Ctr := inlC Try.prog GU3 100 Try.f61
theorem X8 : zd Try.prog 61 Xc := xk hmix zd2 rfl rfl
def KI : Ctr := ctrP true (fun p : Tp × List (List UInt8) => [p.1.av, ratS p.2]) (fun p => zp p.1 = 0 ∧ (p.2.length : Int) = p.1.n ∧ allQ p.2) (fun p r => r = runF p.2 p.1.ops []) (fun _ (r : List (List UInt8) × Int) => (.tup [.osl 0 1 0 r.1.length, .int .i64 r.2], [.arr r.1.length 1 (ratG r.1)]))
def StRu (inp l : List (List UInt8)) (i : Nat) : KV := [(1, ratS inp), (2, .ptr 0 0), (6, .osl 1 1 0 l.length), (7, .int .i64 (i : Int))]
def HtRu (n : Int) (ops : List TOp) (l : List (List UInt8)) : Heap := [.box [.int .i64 n, opS ops], .arr l.length 1 (ratG l)]
theorem UT {l : List (List UInt8)} {v : List UInt8} {g : Nat → Nat → AV} (h : eqG l.length 1 g (ratG l)) : eqG (l.length + 1) 1 (appG l.length g (zf (ze 1 [.str v]) 0)) (ratG (l ++ [v])) := by
 intro j o hj ho
 have ho : o = 0 := by omega
 subst ho
 simp only [appG]
 split
 ·rename_i h1
  rw [h j 0 h1 (by omega)]
  simp only [ratG, List.getD, List.getElem?_append_left h1]
 ·have : j = l.length := by omega
  subst this
  simp [zf, ze, ratG, List.getD]
theorem Uc {ctr : Ctr} {Q : AV × Heap → Prop} {l : List (List UInt8)} {e : Int} {h : Heap} (i : Nat) (hi : h[i]? = some (.arr l.length 1 (ratG l))) (hq : Q (.tup [ratS l, .int .i64 e], [])) : RetR ctr 0 Q [.osl i 1 0 l.length, .int .i64 e] h := by
 refine RetR.out0 hq (fun _ => ?_) ?_
 ·simp only [resV, new2, List.mem_cons, List.not_mem_nil, or_false, forall_eq_or_imp, forall_eq, new1]
  refine ⟨fun _ => ?_, rfl⟩
  simp only [exp0, z8, frz1, ju, hi, if_true, KE]
  intro j o hj ho
  rfl
 ·simp only [resV, exp2, List.map_cons, List.map_nil, exp1]
  refine ⟨?_, ⟨rfl, rfl⟩, trivial⟩
  simp only [exp0, z8, frz1, ju, hi, if_true]
  exact ⟨rfl, rfl, fun j o _ _ => by simp [zf]⟩
noncomputable def GU4 : Nat → Option Ctr := fun f => if f = 61 then some (Xc) else none
theorem U2 : ∀ g c, GU4 g = some c → zd Try.prog g c := okIf X8 (zq)
theorem zbi : zd Try.prog 33 KI := by
 refine uG (fn := Try.f33) (c := Try.f33.body.getD .skip) rfl rfl rfl fun p hp O w0 Q hq => ?_
 obtain ⟨⟨n, ops⟩, inp⟩ := p
 obtain ⟨hc, hn, hqi⟩ := hp
 replace hq := hq _ rfl
 simp only at hc hn hqi hq
 refine zb.run hmix U2 [1, 2, 6, 7] 400 (T := .leaf (.loop (Prod.fst (lps K33 0)) (Prod.snd (lps K33 0)) [(1, .sl inp.length 1 (ratG inp)), (2, .ptr 0 0), (6, .nils), (7, .int .i64 0)] [.box [.int .i64 n, .sl ops.length 4 (opG ops)]])) (by kernel_rfl) ?_
 simp only [Tree.holds, zc]
 obtain ⟨c1, c2, c3, c4, c5⟩ := qh.1 hc
 simp only at c1 c2 c3 c4 c5
 refine zb.up [(1, ratG [])] (StRu inp [] 0) (HbRn n ops) (by simp [StRu, ratS, upKV, upA2, upA1, upA0]) (by simp [HbRn, opS, upH, upB, upL1, upA1, upA0]) (by kernel_rfl) (by kernel_rfl) ?_
 refine zb.loop (ι := {p : Nat × List (List UInt8) // p.1 ≤ ops.length ∧ p.2.length = p.1 ∧ allQ p.2 ∧ runF inp (ops.drop p.1) p.2 = runF inp ops []}) (fun p => StRu inp p.1.2 p.1.1) (fun p => HtRu n ops p.1.2) (fun p => ops.length - p.1.1) ⟨(0, []), Nat.zero_le _, rfl, fun x hx => absurd hx (by simp), by simp⟩ 0 ?_ ?_ (by kernel_rfl)
 ·exact ⟨by simp [StRu, ratS, za], by simp [HtRu, HbRn, wW, opS, za], by kernel_rfl, Nat.zero_le _⟩
 rintro ⟨⟨i, l⟩, hil, hll, hlq, hlr⟩
 simp only at hil hll hlq hlr
 refine zb.run hmix U2 [1, 2, 6, 7] 400 (T := .ite (decide ((↑i : Int) < ops.length)) (.side ((0 : Int) ≤ i ∧ (↑i : Int) < ops.length) (.ite (decide (TOp.kind (List.getD ops (Int.toNat (↑i : Int)) TOp.nil) = (1 : Int))) (.side ((0 : Int) ≤ TOp.a (List.getD ops (Int.toNat (↑i : Int)) TOp.nil) ∧ TOp.a (List.getD ops (Int.toNat (↑i : Int)) TOp.nil) < (↑inp.length : Int)) (.ite false (.leaf (.ret [.nils, .int .i64 0] [.box [.int .i64 n, .sl ops.length 4 (opG ops)], .arr l.length 1 (ratG l), .box [.int .u8 (TOp.kind (List.getD ops (Int.toNat (↑i : Int)) TOp.nil)), .int .i64 (TOp.a (List.getD ops (Int.toNat (↑i : Int)) TOp.nil)), .int .i64 (TOp.b (List.getD ops (Int.toNat (↑i : Int)) TOp.nil)), .str (TOp.rat (List.getD ops (Int.toNat (↑i : Int)) TOp.nil))]])) (.side (0 = 0 ∧ l.length ≤ l.length ∧ (l.length + 1) * 16 ≤ 140737488355328) (.side (inR .i64 ((↑i : Int) + (1 : Int))) (.leaf (.back 0 [(1, .sl inp.length 1 (ratG inp)), (2, .ptr 0 0), (6, .osl 1 1 0 (l.length + 1)), (7, .int .i64 ((↑i : Int) + (1 : Int)))] [.box [.int .i64 n, .sl ops.length 4 (opG ops)], .arr (l.length + 1) 1 (appG l.length (ratG l) (zf (ze 1 [.str (List.getD inp (Int.toNat (TOp.a (List.getD ops (Int.toNat (↑i : Int)) TOp.nil))) [])]) 0)), .box [.int .u8 (TOp.kind (List.getD ops (Int.toNat (↑i : Int)) TOp.nil)), .int .i64 (TOp.a (List.getD ops (Int.toNat (↑i : Int)) TOp.nil)), .int .i64 (TOp.b (List.getD ops (Int.toNat (↑i : Int)) TOp.nil)), .str (TOp.rat (List.getD ops (Int.toNat (↑i : Int)) TOp.nil))], .arr 1 1 (ze 1 [.str (List.getD inp (Int.toNat (TOp.a (List.getD ops (Int.toNat (↑i : Int)) TOp.nil))) [])])])))))) (.ite (decide (TOp.kind (List.getD ops (Int.toNat (↑i : Int)) TOp.nil) = (2 : Int))) (.ite false (.leaf (.ret [.nils, .int .i64 0] [.box [.int .i64 n, .sl ops.length 4 (opG ops)], .arr l.length 1 (ratG l), .box [.int .u8 (TOp.kind (List.getD ops (Int.toNat (↑i : Int)) TOp.nil)), .int .i64 (TOp.a (List.getD ops (Int.toNat (↑i : Int)) TOp.nil)), .int .i64 (TOp.b (List.getD ops (Int.toNat (↑i : Int)) TOp.nil)), .str (TOp.rat (List.getD ops (Int.toNat (↑i : Int)) TOp.nil))]])) (.side (0 = 0 ∧ l.length ≤ l.length ∧ (l.length + 1) * 16 ≤ 140737488355328) (.side (inR .i64 ((↑i : Int) + (1 : Int))) (.leaf (.back 0 [(1, .sl inp.length 1 (ratG inp)), (2, .ptr 0 0), (6, .osl 1 1 0 (l.length + 1)), (7, .int .i64 ((↑i : Int) + (1 : Int)))] [.box [.int .i64 n, .sl ops.length 4 (opG ops)], .arr (l.length + 1) 1 (appG l.length (ratG l) (zf (ze 1 [.str (TOp.rat (List.getD ops (Int.toNat (↑i : Int)) TOp.nil))]) 0)), .box [.int .u8 (TOp.kind (List.getD ops (Int.toNat (↑i : Int)) TOp.nil)), .int .i64 (TOp.a (List.getD ops (Int.toNat (↑i : Int)) TOp.nil)), .int .i64 (TOp.b (List.getD ops (Int.toNat (↑i : Int)) TOp.nil)), .str (TOp.rat (List.getD ops (Int.toNat (↑i : Int)) TOp.nil))], .arr 1 1 (ze 1 [.str (TOp.rat (List.getD ops (Int.toNat (↑i : Int)) TOp.nil))])]))))) (.side ((0 : Int) ≤ TOp.a (List.getD ops (Int.toNat (↑i : Int)) TOp.nil) ∧ TOp.a (List.getD ops (Int.toNat (↑i : Int)) TOp.nil) < (↑l.length : Int)) (.side ((0 : Int) ≤ TOp.b (List.getD ops (Int.toNat (↑i : Int)) TOp.nil) ∧ TOp.b (List.getD ops (Int.toNat (↑i : Int)) TOp.nil) < (↑l.length : Int)) (.ite (decide (TOp.kind (List.getD ops (Int.toNat (↑i : Int)) TOp.nil) = (3 : Int))) (.ex (fun (x : List UInt8 × List UInt8) => eqL [AV.str (List.getD l (0 + Int.toNat (TOp.a (List.getD ops (Int.toNat (↑i : Int)) TOp.nil))) []), AV.str (List.getD l (0 + Int.toNat (TOp.b (List.getD ops (Int.toNat (↑i : Int)) TOp.nil))) [])] [AV.str x.1, AV.str x.2] ∧ x.1.length < 549755813888 ∧ x.2.length < 549755813888) fun n_1 => .all (fun (r : List UInt8 × Int) => r = addR n_1.1 n_1.2) fun n_2 => .ite (!decide (n_2.2 = 0)) (.leaf (.ret [.nils, .int .i64 n_2.2] [.box [.int .i64 n, .sl ops.length 4 (opG ops)], .arr l.length 1 (ratG l), .box [.int .u8 (TOp.kind (List.getD ops (Int.toNat (↑i : Int)) TOp.nil)), .int .i64 (TOp.a (List.getD ops (Int.toNat (↑i : Int)) TOp.nil)), .int .i64 (TOp.b (List.getD ops (Int.toNat (↑i : Int)) TOp.nil)), .str (TOp.rat (List.getD ops (Int.toNat (↑i : Int)) TOp.nil))]])) (.side (0 = 0 ∧ l.length ≤ l.length ∧ (l.length + 1) * 16 ≤ 140737488355328) (.side (inR .i64 ((↑i : Int) + (1 : Int))) (.leaf (.back 0 [(1, .sl inp.length 1 (ratG inp)), (2, .ptr 0 0), (6, .osl 1 1 0 (l.length + 1)), (7, .int .i64 ((↑i : Int) + (1 : Int)))] [.box [.int .i64 n, .sl ops.length 4 (opG ops)], .arr (l.length + 1) 1 (appG l.length (ratG l) (zf (ze 1 [.str n_2.1]) 0)), .box [.int .u8 (TOp.kind (List.getD ops (Int.toNat (↑i : Int)) TOp.nil)), .int .i64 (TOp.a (List.getD ops (Int.toNat (↑i : Int)) TOp.nil)), .int .i64 (TOp.b (List.getD ops (Int.toNat (↑i : Int)) TOp.nil)), .str (TOp.rat (List.getD ops (Int.toNat (↑i : Int)) TOp.nil))], .arr 1 1 (ze 1 [.str n_2.1])]))))) (.ite (decide (TOp.kind (List.getD ops (Int.toNat (↑i : Int)) TOp.nil) = (4 : Int))) (.ex (fun (x : List UInt8 × List UInt8) => eqL [AV.str (List.getD l (0 + Int.toNat (TOp.a (List.getD ops (Int.toNat (↑i : Int)) TOp.nil))) []), AV.str (List.getD l (0 + Int.toNat (TOp.b (List.getD ops (Int.toNat (↑i : Int)) TOp.nil))) [])] [AV.str x.1, AV.str x.2] ∧ x.1.length < 274877906944 ∧ x.2.length < 274877906944) fun n_1 => .all (fun (r : List UInt8 × Int) => r = subR n_1.1 n_1.2) fun n_2 => .ite (!decide (n_2.2 = 0)) (.leaf (.ret [.nils, .int .i64 n_2.2] [.box [.int .i64 n, .sl ops.length 4 (opG ops)], .arr l.length 1 (ratG l), .box [.int .u8 (TOp.kind (List.getD ops (Int.toNat (↑i : Int)) TOp.nil)), .int .i64 (TOp.a (List.getD ops (Int.toNat (↑i : Int)) TOp.nil)), .int .i64 (TOp.b (List.getD ops (Int.toNat (↑i : Int)) TOp.nil)), .str (TOp.rat (List.getD ops (Int.toNat (↑i : Int)) TOp.nil))]])) (.side (0 = 0 ∧ l.length ≤ l.length ∧ (l.length + 1) * 16 ≤ 140737488355328) (.side (inR .i64 ((↑i : Int) + (1 : Int))) (.leaf (.back 0 [(1, .sl inp.length 1 (ratG inp)), (2, .ptr 0 0), (6, .osl 1 1 0 (l.length + 1)), (7, .int .i64 ((↑i : Int) + (1 : Int)))] [.box [.int .i64 n, .sl ops.length 4 (opG ops)], .arr (l.length + 1) 1 (appG l.length (ratG l) (zf (ze 1 [.str n_2.1]) 0)), .box [.int .u8 (TOp.kind (List.getD ops (Int.toNat (↑i : Int)) TOp.nil)), .int .i64 (TOp.a (List.getD ops (Int.toNat (↑i : Int)) TOp.nil)), .int .i64 (TOp.b (List.getD ops (Int.toNat (↑i : Int)) TOp.nil)), .str (TOp.rat (List.getD ops (Int.toNat (↑i : Int)) TOp.nil))], .arr 1 1 (ze 1 [.str n_2.1])]))))) (.ite (decide (TOp.kind (List.getD ops (Int.toNat (↑i : Int)) TOp.nil) = (5 : Int))) (.ex (fun (x : List UInt8 × List UInt8) => eqL [AV.str (List.getD l (0 + Int.toNat (TOp.a (List.getD ops (Int.toNat (↑i : Int)) TOp.nil))) []), AV.str (List.getD l (0 + Int.toNat (TOp.b (List.getD ops (Int.toNat (↑i : Int)) TOp.nil))) [])] [AV.str x.1, AV.str x.2] ∧ x.1.length < 549755813888 ∧ x.2.length < 549755813888) fun n_1 => .all (fun (r : List UInt8 × Int) => r = mulR n_1.1 n_1.2) fun n_2 => .ite (!decide (n_2.2 = 0)) (.leaf (.ret [.nils, .int .i64 n_2.2] [.box [.int .i64 n, .sl ops.length 4 (opG ops)], .arr l.length 1 (ratG l), .box [.int .u8 (TOp.kind (List.getD ops (Int.toNat (↑i : Int)) TOp.nil)), .int .i64 (TOp.a (List.getD ops (Int.toNat (↑i : Int)) TOp.nil)), .int .i64 (TOp.b (List.getD ops (Int.toNat (↑i : Int)) TOp.nil)), .str (TOp.rat (List.getD ops (Int.toNat (↑i : Int)) TOp.nil))]])) (.side (0 = 0 ∧ l.length ≤ l.length ∧ (l.length + 1) * 16 ≤ 140737488355328) (.side (inR .i64 ((↑i : Int) + (1 : Int))) (.leaf (.back 0 [(1, .sl inp.length 1 (ratG inp)), (2, .ptr 0 0), (6, .osl 1 1 0 (l.length + 1)), (7, .int .i64 ((↑i : Int) + (1 : Int)))] [.box [.int .i64 n, .sl ops.length 4 (opG ops)], .arr (l.length + 1) 1 (appG l.length (ratG l) (zf (ze 1 [.str n_2.1]) 0)), .box [.int .u8 (TOp.kind (List.getD ops (Int.toNat (↑i : Int)) TOp.nil)), .int .i64 (TOp.a (List.getD ops (Int.toNat (↑i : Int)) TOp.nil)), .int .i64 (TOp.b (List.getD ops (Int.toNat (↑i : Int)) TOp.nil)), .str (TOp.rat (List.getD ops (Int.toNat (↑i : Int)) TOp.nil))], .arr 1 1 (ze 1 [.str n_2.1])]))))) (.ex (fun (x : List UInt8 × List UInt8) => eqL [AV.str (List.getD l (0 + Int.toNat (TOp.a (List.getD ops (Int.toNat (↑i : Int)) TOp.nil))) []), AV.str (List.getD l (0 + Int.toNat (TOp.b (List.getD ops (Int.toNat (↑i : Int)) TOp.nil))) [])] [AV.str x.1, AV.str x.2] ∧ x.1.length < 549755813888 ∧ x.2.length < 549755813888) fun n_1 => .all (fun (r : List UInt8 × Int) => r = divR n_1.1 n_1.2) fun n_2 => .ite (!decide (n_2.2 = 0)) (.leaf (.ret [.nils, .int .i64 n_2.2] [.box [.int .i64 n, .sl ops.length 4 (opG ops)], .arr l.length 1 (ratG l), .box [.int .u8 (TOp.kind (List.getD ops (Int.toNat (↑i : Int)) TOp.nil)), .int .i64 (TOp.a (List.getD ops (Int.toNat (↑i : Int)) TOp.nil)), .int .i64 (TOp.b (List.getD ops (Int.toNat (↑i : Int)) TOp.nil)), .str (TOp.rat (List.getD ops (Int.toNat (↑i : Int)) TOp.nil))]])) (.side (0 = 0 ∧ l.length ≤ l.length ∧ (l.length + 1) * 16 ≤ 140737488355328) (.side (inR .i64 ((↑i : Int) + (1 : Int))) (.leaf (.back 0 [(1, .sl inp.length 1 (ratG inp)), (2, .ptr 0 0), (6, .osl 1 1 0 (l.length + 1)), (7, .int .i64 ((↑i : Int) + (1 : Int)))] [.box [.int .i64 n, .sl ops.length 4 (opG ops)], .arr (l.length + 1) 1 (appG l.length (ratG l) (zf (ze 1 [.str n_2.1]) 0)), .box [.int .u8 (TOp.kind (List.getD ops (Int.toNat (↑i : Int)) TOp.nil)), .int .i64 (TOp.a (List.getD ops (Int.toNat (↑i : Int)) TOp.nil)), .int .i64 (TOp.b (List.getD ops (Int.toNat (↑i : Int)) TOp.nil)), .str (TOp.rat (List.getD ops (Int.toNat (↑i : Int)) TOp.nil))], .arr 1 1 (ze 1 [.str n_2.1])]))))))))))))) (.leaf (.ret [.osl 1 1 0 l.length, .int .i64 0] [.box [.int .i64 n, .sl ops.length 4 (opG ops)], .arr l.length 1 (ratG l)]))) (by kernel_rfl) ?_
 simp only [Tree.holds, zc, inR, lo, hi, Int.toNat_natCast]
 refine ⟨fun hlt => ?_, fun hge => ?_⟩
 ·have hlt : i < ops.length := by have := of_decide_eq_true hlt; omega
  have hok := kq c5 hlt
  rw [Qd hlt] at hlr
  obtain ⟨o, ho⟩ : ∃ o, ops.getD i TOp.nil = o := ⟨_, rfl⟩
  rw [ho] at hlr hok
  simp only [ho, Nat.zero_add]
  simp only at hok
  have hst := uC hqi hn hlq (by rw [hll]; exact hok)
  have bad : ∀ (e : Int) (h : Heap), (z7 inp l o).2 = e → e ≠ 0 → RetR KI 0 (upQ Q) [.nils, .int .i64 e] h := by
   rintro e h rfl hne
   rw [if_pos hne] at hlr
   rw [← hlr] at hq
   exact uL _ h hq
  have good : ∀ (v : List UInt8) (b : Heap), (z7 inp l o).2 = 0 → (z7 inp l o).1 = v → (True ∧ l.length ≤ l.length ∧ (l.length + 1) * 16 ≤ 140737488355328) ∧ (True ∧ l.length ≤ l.length ∧ (l.length + 1) * 16 ≤ 140737488355328 → (-9223372036854775808 ≤ (i : Int) + 1 ∧ (i : Int) + 1 ≤ 9223372036854775807) ∧ (-9223372036854775808 ≤ (i : Int) + 1 ∧ (i : Int) + 1 ≤ 9223372036854775807 → if True then
    ∃ x' : {p : Nat × List (List UInt8) // p.1 ≤ ops.length ∧ p.2.length = p.1 ∧ allQ p.2 ∧ runF inp (ops.drop p.1) p.2 = runF inp ops []}, ops.length - x'.1.1 < ops.length - i ∧
    LeK 0 Try.f33.ntmps [(1, ratS inp), (2, .ptr 0 0), (6, .osl 1 1 0 (l.length + 1)), (7, .int .i64 ((i : Int) + 1))] ([.box [.int .i64 n, opS ops], .arr (l.length + 1) 1 (appG l.length (ratG l) (zf (ze 1 [.str v]) 0))] ++ b) (StRu inp x'.1.2 x'.1.1) (HtRu n ops x'.1.2) else False)) := by
   rintro v b he rfl
   rw [if_neg (fun g => g he)] at hlr
   refine ⟨⟨trivial, Nat.le_refl _, by omega⟩, fun _ => ⟨by omega, fun _ => ?_⟩⟩
   rw [if_pos trivial]
   refine ⟨⟨(i + 1, l ++ [(z7 inp l o).1]), hlt, by simp [hll], yN hlq (hst he), hlr⟩, by show ops.length - (i + 1) < ops.length - i; omega, ?_, ?_, rfl, Nat.zero_le _⟩
   ·simp [StRu, ratS, za]
   ·simp only [HtRu, List.cons_append]
    exact ⟨by simp [opS, za], ⟨by simp, rfl, UT (za _ _ _)⟩, by cases b <;> trivial⟩
  have la := zc3 hlq
  have h1 := qW hok
  refine ⟨by omega, fun _ => ⟨fun k1 => ?_, fun k1 => ⟨fun k2 => ?_, fun k2 => ?_⟩⟩⟩
  ·have k1 := of_decide_eq_true k1
   refine ⟨by omega, fun _ => ⟨fun h => (by cases h), fun _ => ?_⟩⟩
   exact good _ [_, _] (by unfold z7; rw [if_pos k1]) (by unfold z7; rw [if_pos k1])
  ·have k1 := of_decide_eq_false k1
   have k2 := of_decide_eq_true k2
   refine ⟨fun h => (by cases h), fun _ => ?_⟩
   exact good _ [_, _] (by unfold z7; rw [if_neg k1, if_pos k2]) (by unfold z7; rw [if_neg k1, if_pos k2])
  ·have k1 := of_decide_eq_false k1
   have k2 := of_decide_eq_false k2
   have hv : z7 inp l o = arR o.kind (l.getD o.a.toNat []) (l.getD o.b.toNat []) := by unfold z7; rw [if_neg k1, if_neg k2]
   have fin : ∀ (r : List UInt8 × Int) (h : Heap), r = arR o.kind (l.getD o.a.toNat []) (l.getD o.b.toNat []) → ((!decide (r.2 = 0)) = true → RetR KI 0 (upQ Q) [.nils, .int .i64 r.2] h) ∧ ((!decide (r.2 = 0)) = false → (z7 inp l o).2 = 0 ∧ (z7 inp l o).1 = r.1) := by
    rintro r h hr
    rw [← hv] at hr
    exact ⟨fun h1 => bad _ _ (by rw [hr]) (by simpa using h1), fun h1 => ⟨by rw [← hr]; simpa using h1, by rw [hr]⟩⟩
   refine ⟨by omega, fun _ => ⟨by omega, fun _ => ?_⟩⟩
   have l1 := la o.a.toNat
   have l2 := la o.b.toNat
   refine ⟨fun k3 => ?_, fun k3 => ⟨fun k4 => ?_, fun k4 => ⟨fun k5 => ?_, fun k5 => ?_⟩⟩⟩
   all_goals
    refine ⟨(l.getD o.a.toNat [], l.getD o.b.toNat []), ⟨⟨rfl, rfl, trivial⟩, by show (l.getD o.a.toNat []).length < _; omega, by show (l.getD o.b.toNat []).length < _; omega⟩, ⟨_, rfl⟩, ?_⟩
    rintro _ rfl
   ·have k3 := of_decide_eq_true k3
    refine (fun q => ⟨(fin _ _ q).1, fun h => good _ [_, _] ((fin _ [] q).2 h).1 ((fin _ [] q).2 h).2⟩) ?_
    unfold arR; rw [if_pos k3]
   ·have k3 := of_decide_eq_false k3
    have k4 := of_decide_eq_true k4
    refine (fun q => ⟨(fin _ _ q).1, fun h => good _ [_, _] ((fin _ [] q).2 h).1 ((fin _ [] q).2 h).2⟩) ?_
    unfold arR; rw [if_neg k3, if_pos k4]
   ·have k3 := of_decide_eq_false k3
    have k4 := of_decide_eq_false k4
    have k5 := of_decide_eq_true k5
    refine (fun q => ⟨(fin _ _ q).1, fun h => good _ [_, _] ((fin _ [] q).2 h).1 ((fin _ [] q).2 h).2⟩) ?_
    unfold arR; rw [if_neg k3, if_neg k4, if_pos k5]
   ·have k3 := of_decide_eq_false k3
    have k4 := of_decide_eq_false k4
    have k5 := of_decide_eq_false k5
    refine (fun q => ⟨(fin _ _ q).1, fun h => good _ [_, _] ((fin _ [] q).2 h).1 ((fin _ [] q).2 h).2⟩) ?_
    unfold arR; rw [if_neg k3, if_neg k4, if_neg k5]
 ·have hge : i = ops.length := by have := of_decide_eq_false hge; omega
  subst hge
  rw [Wr] at hlr
  rw [← hlr] at hq
  simp only at hq
  refine RetR.outs [1] rfl rfl (.inl hq) (fun _ => ⟨?_, ?_⟩) ?_ ?_ rfl
  ·simp [resV, new2, new1, new0, z8, zP]
  ·simp only [List.mem_cons, List.not_mem_nil, or_false, forall_eq]
   exact uF (za _ _ _)
  ·simp [resV, exp2, exp1, exp0, z8, ren0, eqA2, eqL1]
  ·exact ⟨⟨rfl, rfl, za _ _ _⟩, trivial⟩
end Go.Proofs.Try
end

/- The reference's tapes: runs with their checks, values, degrees; comparisons, bounds. -/
section
set_option maxRecDepth 100000
open Go Go.Sx Go.Proofs Go.Nov
namespace Go.Proofs.Try
attribute [local simp] eqKV eqA eqA0 eqH eqB eqL eqL0
noncomputable def K11 : List Go.Sx.Item := [.code (Try.f11.body.getD .skip)]
noncomputable def K15 : List Go.Sx.Item := [.code (Try.f15.body.getD .skip)]
noncomputable def K16 : List Go.Sx.Item := [.code (Try.f16.body.getD .skip)]
noncomputable def K19 : List Go.Sx.Item := [.code (Try.f19.body.getD .skip)]
noncomputable def K8 : List Go.Sx.Item := [.code (Try.f8.body.getD .skip)]
def midT (t : Tp) : Prop := t.ops.length < 2 ^ 40 ∧ ∀ j, j < t.ops.length → (t.ops.getD j TOp.nil).rat.length < 2 ^ 40
def midR (l : List (List UInt8)) : Prop := l.length < 2 ^ 40 ∧ ∀ j, j < l.length → (l.getD j []).length < 2 ^ 40
def Xa : Ctr := ctrP true (fun p : Tp × List (List UInt8) => [p.1.av, ratS p.2]) (fun p => midT p.1 ∧ midR p.2) (fun p r => r = trun p.1 p.2) (fun _ (r : List (List UInt8) × Int) => (.tup [ratS r.1, .int .i64 r.2], []))
def StRn (inp : List (List UInt8)) (e : Int) (i : Nat) : KV := [(1, ratS inp), (2, .ptr 0 0), (6, .int .i64 e), (7, .int .i64 (i : Int)), (26, .undef), (27, .undef)]
noncomputable def GU5 : Nat → Option Ctr := fun f => if f = 18 then some (yh) else if f = 32 then some (ye) else if f = 33 then some (KI) else none
theorem YB : ∀ g c, GU5 g = some c → zd Try.prog g c := okIf y8 (okIf x5 (okIf zbi (zq)))
theorem KN : zd Try.prog 11 Xa := by
 refine zg (fn := Try.f11) (c := Try.f11.body.getD .skip) rfl rfl rfl fun p hp O w0 Q hq => ?_
 obtain ⟨⟨n, ops⟩, inp⟩ := p
 obtain ⟨hs, hr⟩ := hp
 replace hq := hq _ rfl
 simp only at hs hr hq
 refine zb.run hmix YB [1, 2, 6, 7, 26, 27] 400 (T := .ex (fun (x : Tp) => eqL [AV.agg [AV.int .i64 n, AV.sl ops.length 4 (opG ops)]] [AV.agg [AV.int .i64 (Tp.n x), AV.sl (List.length (Tp.ops x)) 4 (opG (Tp.ops x))]] ∧ List.length (Tp.ops x) < 1099511627776 ∧ ∀ (j : Nat), j < List.length (Tp.ops x) → List.length (TOp.rat (List.getD (Tp.ops x) j TOp.nil)) < 1099511627776) fun n_1 => .all (fun (r : Int) => r = zp n_1) fun n_2 => .ite (bif decide (n_2 = 0) then !decide ((↑inp.length : Int) = n) else false) (.leaf (.loop (Prod.fst (lps K11 0)) (Prod.snd (lps K11 0)) [(1, .sl inp.length 1 (ratG inp)), (2, .ptr 0 0), (6, .int .i64 2), (7, .int .i64 0), (26, .undef), (27, .undef)] [.box [.int .i64 n, .sl ops.length 4 (opG ops)]])) (.leaf (.loop (Prod.fst (lps K11 0)) (Prod.snd (lps K11 0)) [(1, .sl inp.length 1 (ratG inp)), (2, .ptr 0 0), (6, .int .i64 n_2), (7, .int .i64 0), (26, .undef), (27, .undef)] [.box [.int .i64 n, .sl ops.length 4 (opG ops)]]))) (by kernel_rfl) ?_
 simp only [Tree.holds, zc]
 have key : ∀ e : Int, (if e ≠ 0 then e else vz inp) = preT ⟨n, ops⟩ inp → zb Try.prog Try.f11 O 0 w0 [] (fun _ _ _ => False) (RetR Xa 0 Q) (.code (.loop (lps K11 0).1) :: (lps K11 0).2) (mk Try.f11.ntmps (StRn inp e 0) (HbRn n ops)) := by
  intro e he0
  refine zb.loop (ι := {p : Nat × Int // p.1 ≤ inp.length ∧ (if p.2 ≠ 0 then p.2 else vz (inp.drop p.1)) = preT ⟨n, ops⟩ inp}) (fun p => StRn inp p.1.2 p.1.1) (fun _ => HbRn n ops) (fun p => inp.length - p.1.1) ⟨(0, e), Nat.zero_le _, by simpa using he0⟩ 0 ?_ ?_ (by kernel_rfl)
  ·exact ⟨by simp [StRn, ratS, za], by simp [HbRn, opS, za], by kernel_rfl, Nat.zero_le _⟩
  rintro ⟨⟨i, e⟩, hil, hie⟩
  simp only at hil hie
  refine zb.run hmix YB [1, 2, 6, 7, 26, 27] 400 (T := .ite (bif decide ((↑i : Int) < inp.length) then decide (e = 0) else false) (.side ((0 : Int) ≤ i ∧ (↑i : Int) < inp.length) (.ex (fun (x : List UInt8) => eqL [AV.str (List.getD inp (Int.toNat (↑i : Int)) [])] [AV.str x] ∧ x.length < 1099511627776) fun n_1 => .all (fun (r : Int) => r = errR n_1) fun n_2 => .side (inR .i64 ((↑i : Int) + (1 : Int))) (.leaf (.back 0 [(1, .sl inp.length 1 (ratG inp)), (2, .ptr 0 0), (6, .int .i64 n_2), (7, .int .i64 ((↑i : Int) + (1 : Int))), (26, .undef), (27, .undef)] [.box [.int .i64 n, .sl ops.length 4 (opG ops)]])))) (.ite (!decide (e = 0)) (.leaf (.ret [.nils, .int .i64 e] [.box [.int .i64 n, .sl ops.length 4 (opG ops)]])) (.ex (fun (x : Tp × List (List UInt8)) => eqL [AV.agg [AV.int .i64 n, AV.sl ops.length 4 (opG ops)], AV.sl inp.length 1 (ratG inp)] [AV.agg [AV.int .i64 (Tp.n x.1), AV.sl (List.length (Tp.ops x.1)) 4 (opG (Tp.ops x.1))], AV.sl x.2.length 1 (ratG x.2)] ∧ zp x.1 = 0 ∧ (↑x.2.length : Int) = Tp.n x.1 ∧ allQ x.2) fun n_1 => .all (fun (r : List (List UInt8) × Int) => r = runF n_1.2 (Tp.ops n_1.1) []) fun n_2 => .leaf (.ret [.osl 1 1 0 n_2.1.length, .int .i64 n_2.2] [.box [.int .i64 n, .sl ops.length 4 (opG ops)], .arr n_2.1.length 1 (ratG n_2.1)])))) (by kernel_rfl) ?_
  simp only [Tree.holds, zc, inR, lo, hi, Int.toNat_natCast]
  refine ⟨fun h => ?_, fun h => ?_⟩
  ·have g : i < inp.length ∧ e = 0 := by
    rw [andt] at h
    exact ⟨by have := of_decide_eq_true h.1; omega, of_decide_eq_true h.2⟩
   obtain ⟨hlt, rfl⟩ := g
   have hlen := hr.2 i hlt
   refine ⟨by omega, fun _ => ⟨inp.getD i [], ⟨⟨rfl, trivial⟩, by omega⟩, ⟨_, rfl⟩, ?_⟩⟩
   rintro _ rfl
   have hl := hr.1
   refine ⟨by omega, fun _ => ?_⟩
   rw [if_pos trivial]
   rw [if_neg (by simp), Zd hlt] at hie
   exact ⟨⟨(i + 1, errR (inp.getD i [])), hlt, hie⟩, by show inp.length - (i + 1) < inp.length - i; omega, by simp [StRn, ratS, za], by simp [HbRn, opS, za], by kernel_rfl, Nat.zero_le _⟩
  ·refine ⟨fun h2 => ?_, fun h2 => ?_⟩
   ·have h2 : e ≠ 0 := by simpa using h2
    rw [if_pos h2] at hie
    have e2 : trun ⟨n, ops⟩ inp = ([], e) := by unfold trun; rw [← hie, if_pos h2]
    rw [e2] at hq
    exact RetR.out0 hq (fun _ => by simp [resV, new2, new1, new0, zP]) (by simp [resV, exp2, exp1, exp0, ren0, eqA2, eqL1, ratS])
   ·have h2 : e = 0 := by simpa using h2
    subst h2
    have hge : i = inp.length := by
     rcases Nat.lt_or_ge i inp.length with g | g
     ·rw [decide_eq_true (show (i : Int) < inp.length by omega)] at h; cases h
     ·omega
    subst hge
    rw [if_neg (by simp), List.drop_length] at hie
    have hpre : preT ⟨n, ops⟩ inp = 0 := hie.symm
    obtain ⟨p1, p2, p3⟩ := QT.1 hpre
    refine ⟨(⟨n, ops⟩, inp), ⟨⟨⟨⟨rfl, rfl⟩, ⟨rfl, rfl, za _ _ _⟩, trivial⟩, ⟨rfl, rfl, za _ _ _⟩, trivial⟩, p1, p2, p3⟩, ⟨_, rfl⟩, ?_⟩
    rintro _ rfl
    have e2 : trun ⟨n, ops⟩ inp = runF inp ops [] := by unfold trun; rw [if_neg (fun q => q hpre)]
    rw [e2] at hq
    exact Uc 1 rfl hq
 have e0 : eqL [.agg [.int .i64 n, opS ops]] [(Tp.mk n ops).av] := ⟨⟨⟨rfl, rfl⟩, ⟨rfl, rfl, za _ _ _⟩, trivial⟩, trivial⟩
 refine ⟨⟨n, ops⟩, ⟨e0, hs⟩, ⟨_, rfl⟩, ?_⟩
 rintro _ rfl
 refine ⟨fun h => key 2 ?_, fun h => key _ ?_⟩
 ·have g : zp ⟨n, ops⟩ = 0 ∧ (inp.length : Int) ≠ n := by
   by_cases g1 : zp ⟨n, ops⟩ = 0
   ·refine ⟨g1, fun g2 => ?_⟩
    rw [decide_eq_true g1, decide_eq_true g2] at h; cases h
   ·rw [decide_eq_false g1] at h; cases h
  unfold preT
  rw [if_pos (show (2 : Int) ≠ 0 by decide), if_neg (fun q => q g.1), if_pos g.2]
 ·unfold preT
  by_cases g1 : zp ⟨n, ops⟩ = 0
  ·have g2 : (inp.length : Int) = n := by
    by_cases g2 : (inp.length : Int) = n
    ·exact g2
    ·rw [decide_eq_true g1, decide_eq_false g2] at h; cases h
   rw [if_neg (fun q => q g1), if_neg (fun q => q g1), if_neg (fun q => q g2)]
  ·rw [if_pos g1, if_pos g1]
def zcb : Ctr := ctrP true (fun p : Tp × List (List UInt8) => [p.1.av, ratS p.2]) (fun p => midT p.1 ∧ midR p.2) (fun p r => r = zA p.1 p.2) (fun _ (r : List UInt8 × Int) => (.tup [.str r.1, .int .i64 r.2], []))
noncomputable def GU6 : Nat → Option Ctr := fun f => if f = 11 then some (Xa) else none
theorem zd5 : ∀ g c, GU6 g = some c → zd Try.prog g c := okIf KN (zq)
theorem zaw : zd Try.prog 13 zcb := by
 refine zg (fn := Try.f13) (c := Try.f13.body.getD .skip) rfl rfl rfl fun p hp O w0 Q hq => ?_
 obtain ⟨⟨n, ops⟩, inp⟩ := p
 replace hq := hq _ rfl
 simp only at hp hq
 refine zb.run hmix zd5 [] 400 (T := .ex (fun (x : Tp × List (List UInt8)) => eqL [AV.agg [AV.int .i64 n, AV.sl ops.length 4 (opG ops)], AV.sl inp.length 1 (ratG inp)] [AV.agg [AV.int .i64 (Tp.n x.1), AV.sl (List.length (Tp.ops x.1)) 4 (opG (Tp.ops x.1))], AV.sl x.2.length 1 (ratG x.2)] ∧ midT x.1 ∧ midR x.2) fun n_1 => .all (fun (r : List (List UInt8) × Int) => r = trun n_1.1 n_1.2) fun n_2 => .ite (!decide (n_2.2 = 0)) (.leaf (.ret [.str (Array.toList #[]), .int .i64 n_2.2] [.box [.int .i64 n, .sl ops.length 4 (opG ops)]])) (.side (inR .i64 ((↑n_2.1.length : Int) - (1 : Int))) (.side ((0 : Int) ≤ n_2.1.length - (1 : Int) ∧ (↑n_2.1.length : Int) - (1 : Int) < n_2.1.length) (.leaf (.ret [.str (List.getD n_2.1 (Int.toNat ((↑n_2.1.length : Int) - (1 : Int))) []), .int .i64 0] [.box [.int .i64 n, .sl ops.length 4 (opG ops)]]))))) (by kernel_rfl) ?_
 simp only [Tree.holds, zc]
 refine ⟨(⟨n, ops⟩, inp), ⟨⟨⟨⟨rfl, rfl⟩, ⟨rfl, rfl, za _ _ _⟩, trivial⟩, ⟨rfl, rfl, za _ _ _⟩, trivial⟩, hp.1, hp.2⟩, ⟨_, rfl⟩, ?_⟩
 intro r hr
 replace hr : r = trun ⟨n, ops⟩ inp := hr
 unfold zA jb at hq
 rw [← hr] at hq
 simp only [inR, lo, hi]
 refine ⟨fun h => ?_, fun h => ?_⟩
 ·have h : r.2 ≠ 0 := by simpa using h
  rw [if_pos h] at hq
  exact RetR.scal hq rfl (by simp [resV])
 ·have h : r.2 = 0 := by simpa using h
  rw [if_neg (fun g => g h)] at hq
  obtain ⟨c, _, l⟩ := Wc (hr ▸ h)
  rw [← hr] at l
  obtain ⟨c1, _, _, c4, _⟩ := qh.1 c
  refine ⟨by omega, fun _ => ⟨by omega, fun _ => ?_⟩⟩
  have e : ((r.1.length : Int) - 1).toNat = r.1.length - 1 := by omega
  rw [e]
  exact RetR.scal hq rfl (by simp [resV])
def StDg (k : Int) (l : List Int) (i : Nat) : KV := [(1, .int .i64 k), (2, .ptr 0 0), (7, .osl 1 1 0 l.length), (8, .int .i64 (i : Int)), (69, .undef), (70, .undef), (71, .undef), (72, .undef), (73, .undef), (74, .undef), (97, .undef), (98, .undef), (99, .undef), (100, .undef), (101, .undef), (102, .undef)]
def HtDg (n : Int) (ops : List TOp) (l : List Int) : Heap := [.box [.int .i64 n, opS ops], .arr l.length 1 (tgI .i64 (dgF l))]
theorem zaz {l : List Int} {v : Int} : eqG (l.length + 1) 1 (appG l.length (tgI .i64 (dgF l)) (zf (ze 1 [.int .i64 v]) 0)) (tgI .i64 (dgF (l ++ [v]))) := by
 intro j o hj ho
 have ho : o = 0 := by omega
 subst ho
 simp only [appG]
 split
 ·rename_i h1
  simp only [tgI, dgF, List.getD, List.getElem?_append_left h1]
 ·have : j = l.length := by omega
  subst this
  simp [zf, ze, tgI, dgF, List.getD]
def zc6 : Ctr := ctrP true (fun p : Tp × Int => [p.1.av, .int .i64 p.2]) (fun p => midT p.1) (fun p r => r = degT p.1 p.2) (fun _ (r : Int × Int) => (.tup [.int .i64 r.1, .int .i64 r.2], []))
noncomputable def GU7 : Nat → Option Ctr := fun f => if f = 18 then some (yh) else if f = 36 then some (tInI) else none
theorem UM : ∀ g c, GU7 g = some c → zd Try.prog g c := okIf y8 (okIf VG (zq))
theorem zba : zd Try.prog 15 zc6 := by
 refine zg (fn := Try.f15) (c := Try.f15.body.getD .skip) rfl rfl rfl fun p hp O w0 Q hq => ?_
 obtain ⟨⟨n, ops⟩, k⟩ := p
 replace hq := hq _ rfl
 simp only at hp hq
 refine zb.run hmix UM [1, 2, 7, 8, 69, 70, 71, 72, 73, 74, 97, 98, 99, 100, 101, 102] 400 (T := .ex (fun (x : Tp) => eqL [AV.agg [AV.int .i64 n, AV.sl ops.length 4 (opG ops)]] [AV.agg [AV.int .i64 (Tp.n x), AV.sl (List.length (Tp.ops x)) 4 (opG (Tp.ops x))]] ∧ List.length (Tp.ops x) < 1099511627776 ∧ ∀ (j : Nat), j < List.length (Tp.ops x) → List.length (TOp.rat (List.getD (Tp.ops x) j TOp.nil)) < 1099511627776) fun n_1 => .all (fun (r : Int) => r = zp n_1) fun n_2 => .side (decide (n_2 = 0) = true → inR .i64 (n - (1 : Int))) (.ite (bif decide (n_2 = 0) then !bif decide ((0 : Int) ≤ k) then decide (k ≤ n - (1 : Int)) else false else false) (.ite true (.leaf (.ret [.int .i64 0, .int .i64 2] [.box [.int .i64 n, .sl ops.length 4 (opG ops)]])) (.leaf (.loop (Prod.fst (lps K15 0)) (Prod.snd (lps K15 0)) [(1, .int .i64 k), (2, .ptr 0 0), (7, .nils), (8, .int .i64 0), (69, .undef), (70, .undef), (71, .undef), (72, .undef), (73, .undef), (74, .undef), (97, .undef), (98, .undef), (99, .undef), (100, .undef), (101, .undef), (102, .undef)] [.box [.int .i64 n, .sl ops.length 4 (opG ops)]]))) (.ite (!decide (n_2 = 0)) (.leaf (.ret [.int .i64 0, .int .i64 n_2] [.box [.int .i64 n, .sl ops.length 4 (opG ops)]])) (.leaf (.loop (Prod.fst (lps K15 0)) (Prod.snd (lps K15 0)) [(1, .int .i64 k), (2, .ptr 0 0), (7, .nils), (8, .int .i64 0), (69, .undef), (70, .undef), (71, .undef), (72, .undef), (73, .undef), (74, .undef), (97, .undef), (98, .undef), (99, .undef), (100, .undef), (101, .undef), (102, .undef)] [.box [.int .i64 n, .sl ops.length 4 (opG ops)]]))))) (by kernel_rfl) ?_
 simp only [Tree.holds, zc]
 have e0 : eqL [.agg [.int .i64 n, opS ops]] [(Tp.mk n ops).av] := ⟨⟨⟨rfl, rfl⟩, ⟨rfl, rfl, za _ _ _⟩, trivial⟩, trivial⟩
 refine ⟨⟨n, ops⟩, ⟨e0, hp⟩, ⟨_, rfl⟩, ?_⟩
 rintro _ rfl
 refine ⟨fun h => ?_, fun _ => ⟨fun h => ⟨fun _ => ?_, fun g => (by cases g)⟩, fun h => ⟨fun h2 => ?_, fun h2 => ?_⟩⟩⟩
 ·obtain ⟨_, c2, c3, _⟩ := qh.1 (of_decide_eq_true h)
  simp only at c2 c3
  simp only [inR, lo, hi]
  omega
 ·rw [andt] at h
  have h0 := of_decide_eq_true h.1
  have h1 : ¬ (0 ≤ k ∧ k < n) := by
   rintro ⟨g1, g2⟩
   have := h.2
   rw [decide_eq_true g1, decide_eq_true (show k ≤ n - 1 by omega)] at this; cases this
  unfold degT at hq
  rw [if_neg (fun q => q h0), if_neg h1] at hq
  exact RetR.scal hq rfl (by simp [resV])
 ·have h2 : zp ⟨n, ops⟩ ≠ 0 := by simpa using h2
  unfold degT at hq
  rw [if_pos h2] at hq
  exact RetR.scal hq rfl (by simp [resV])
 have h2 : zp ⟨n, ops⟩ = 0 := by simpa using h2
 have h1 : 0 ≤ k ∧ k < n := by
  rw [decide_eq_true h2] at h
  by_cases g1 : 0 ≤ k
  ·by_cases g2 : k ≤ n - 1
   ·omega
   ·rw [decide_eq_true g1, decide_eq_false g2] at h; cases h
  ·rw [decide_eq_false g1] at h; cases h
 obtain ⟨c1, c2, c3, c4, c5⟩ := qh.1 h2
 simp only at c1 c2 c3 c4 c5
 unfold degT at hq
 rw [if_neg (fun q => q h2), if_pos h1] at hq
 refine zb.up [(1, tgI .i64 (dgF []))] (StDg k [] 0) (HbRn n ops) (by simp [StDg, upKV, upA2, upA1, upA0]) (by simp [HbRn, opS, upH, upB, upL1, upA1, upA0]) (by kernel_rfl) (by kernel_rfl) ?_
 refine zb.loop (ι := {p : Nat × List Int // p.1 ≤ ops.length ∧ p.2.length = p.1 ∧ (∀ j, degB (p.2.getD j 0)) ∧ degF k (ops.drop p.1) p.2 = degF k ops []}) (fun p => StDg k p.1.2 p.1.1) (fun p => HtDg n ops p.1.2) (fun p => ops.length - p.1.1) ⟨(0, []), Nat.zero_le _, rfl, fun j => by simp [degB], by simp⟩ 0 ?_ ?_ (by kernel_rfl)
 ·exact ⟨by simp [StDg], by simp [HtDg, HbRn, wW, opS, za], by kernel_rfl, Nat.zero_le _⟩
 rintro ⟨⟨i, l⟩, hil, hll, hlb, hlr⟩
 simp only at hil hll hlb hlr
 refine zb.run hmix UM [1, 2, 7, 8, 69, 70, 71, 72, 73, 74, 97, 98, 99, 100, 101, 102] 400 (T := .ite (decide ((↑i : Int) < ops.length)) (.side ((0 : Int) ≤ i ∧ (↑i : Int) < ops.length) (.ite (decide (TOp.kind (List.getD ops (Int.toNat (↑i : Int)) TOp.nil) = (1 : Int))) (.ite (decide (TOp.a (List.getD ops (Int.toNat (↑i : Int)) TOp.nil) = k)) (.side (0 = 0 ∧ l.length ≤ l.length ∧ (l.length + 1) * 8 ≤ 140737488355328) (.side (inR .i64 ((↑i : Int) + (1 : Int))) (.leaf (.back 0 [(1, .int .i64 k), (2, .ptr 0 0), (7, .osl 1 1 0 (l.length + 1)), (8, .int .i64 ((↑i : Int) + (1 : Int))), (69, .undef), (70, .undef), (71, .undef), (72, .undef), (73, .undef), (74, .undef), (97, .undef), (98, .undef), (99, .undef), (100, .undef), (101, .undef), (102, .undef)] [.box [.int .i64 n, .sl ops.length 4 (opG ops)], .arr (l.length + 1) 1 (appG l.length (fun (j x : Nat) => .int .i64 (dgF l j)) (zf (ze 1 [.int .i64 1]) 0)), .box [.int .u8 (TOp.kind (List.getD ops (Int.toNat (↑i : Int)) TOp.nil)), .int .i64 (TOp.a (List.getD ops (Int.toNat (↑i : Int)) TOp.nil)), .int .i64 (TOp.b (List.getD ops (Int.toNat (↑i : Int)) TOp.nil)), .str (TOp.rat (List.getD ops (Int.toNat (↑i : Int)) TOp.nil))], .arr 1 1 (ze 1 [.int .i64 1])])))) (.side (0 = 0 ∧ l.length ≤ l.length ∧ (l.length + 1) * 8 ≤ 140737488355328) (.side (inR .i64 ((↑i : Int) + (1 : Int))) (.leaf (.back 0 [(1, .int .i64 k), (2, .ptr 0 0), (7, .osl 1 1 0 (l.length + 1)), (8, .int .i64 ((↑i : Int) + (1 : Int))), (69, .undef), (70, .undef), (71, .undef), (72, .undef), (73, .undef), (74, .undef), (97, .undef), (98, .undef), (99, .undef), (100, .undef), (101, .undef), (102, .undef)] [.box [.int .i64 n, .sl ops.length 4 (opG ops)], .arr (l.length + 1) 1 (appG l.length (fun (j x : Nat) => .int .i64 (dgF l j)) (zf (ze 1 [.int .i64 0]) 0)), .box [.int .u8 (TOp.kind (List.getD ops (Int.toNat (↑i : Int)) TOp.nil)), .int .i64 (TOp.a (List.getD ops (Int.toNat (↑i : Int)) TOp.nil)), .int .i64 (TOp.b (List.getD ops (Int.toNat (↑i : Int)) TOp.nil)), .str (TOp.rat (List.getD ops (Int.toNat (↑i : Int)) TOp.nil))], .arr 1 1 (ze 1 [.int .i64 0])]))))) (.ite (decide (TOp.kind (List.getD ops (Int.toNat (↑i : Int)) TOp.nil) = (2 : Int))) (.side (0 = 0 ∧ l.length ≤ l.length ∧ (l.length + 1) * 8 ≤ 140737488355328) (.side (inR .i64 ((↑i : Int) + (1 : Int))) (.leaf (.back 0 [(1, .int .i64 k), (2, .ptr 0 0), (7, .osl 1 1 0 (l.length + 1)), (8, .int .i64 ((↑i : Int) + (1 : Int))), (69, .undef), (70, .undef), (71, .undef), (72, .undef), (73, .undef), (74, .undef), (97, .undef), (98, .undef), (99, .undef), (100, .undef), (101, .undef), (102, .undef)] [.box [.int .i64 n, .sl ops.length 4 (opG ops)], .arr (l.length + 1) 1 (appG l.length (fun (j x : Nat) => .int .i64 (dgF l j)) (zf (ze 1 [.int .i64 0]) 0)), .box [.int .u8 (TOp.kind (List.getD ops (Int.toNat (↑i : Int)) TOp.nil)), .int .i64 (TOp.a (List.getD ops (Int.toNat (↑i : Int)) TOp.nil)), .int .i64 (TOp.b (List.getD ops (Int.toNat (↑i : Int)) TOp.nil)), .str (TOp.rat (List.getD ops (Int.toNat (↑i : Int)) TOp.nil))], .arr 1 1 (ze 1 [.int .i64 0])])))) (.side ((0 : Int) ≤ TOp.a (List.getD ops (Int.toNat (↑i : Int)) TOp.nil) ∧ TOp.a (List.getD ops (Int.toNat (↑i : Int)) TOp.nil) < (↑l.length : Int)) (.side (decide (dgF l (0 + Int.toNat (TOp.a (List.getD ops (Int.toNat (↑i : Int)) TOp.nil))) < (0 : Int)) = false → (0 : Int) ≤ TOp.b (List.getD ops (Int.toNat (↑i : Int)) TOp.nil) ∧ TOp.b (List.getD ops (Int.toNat (↑i : Int)) TOp.nil) < (↑l.length : Int)) (.ite (bif decide (dgF l (0 + Int.toNat (TOp.a (List.getD ops (Int.toNat (↑i : Int)) TOp.nil))) < (0 : Int)) then true else decide (dgF l (0 + Int.toNat (TOp.b (List.getD ops (Int.toNat (↑i : Int)) TOp.nil))) < (0 : Int))) (.side (0 = 0 ∧ l.length ≤ l.length ∧ (l.length + 1) * 8 ≤ 140737488355328) (.side (inR .i64 ((↑i : Int) + (1 : Int))) (.leaf (.back 0 [(1, .int .i64 k), (2, .ptr 0 0), (7, .osl 1 1 0 (l.length + 1)), (8, .int .i64 ((↑i : Int) + (1 : Int))), (69, .undef), (70, .undef), (71, .undef), (72, .undef), (73, .undef), (74, .undef), (97, .undef), (98, .undef), (99, .undef), (100, .undef), (101, .undef), (102, .undef)] [.box [.int .i64 n, .sl ops.length 4 (opG ops)], .arr (l.length + 1) 1 (appG l.length (fun (j x : Nat) => .int .i64 (dgF l j)) (zf (ze 1 [.int .i64 (-1 : Int)]) 0)), .box [.int .u8 (TOp.kind (List.getD ops (Int.toNat (↑i : Int)) TOp.nil)), .int .i64 (TOp.a (List.getD ops (Int.toNat (↑i : Int)) TOp.nil)), .int .i64 (TOp.b (List.getD ops (Int.toNat (↑i : Int)) TOp.nil)), .str (TOp.rat (List.getD ops (Int.toNat (↑i : Int)) TOp.nil))], .arr 1 1 (ze 1 [.int .i64 (-1 : Int)])])))) (.ite (decide (TOp.kind (List.getD ops (Int.toNat (↑i : Int)) TOp.nil) = (5 : Int))) (.side ((0 : Int) ≤ TOp.a (List.getD ops (Int.toNat (↑i : Int)) TOp.nil) ∧ TOp.a (List.getD ops (Int.toNat (↑i : Int)) TOp.nil) < (↑l.length : Int)) (.side ((0 : Int) ≤ TOp.b (List.getD ops (Int.toNat (↑i : Int)) TOp.nil) ∧ TOp.b (List.getD ops (Int.toNat (↑i : Int)) TOp.nil) < (↑l.length : Int)) (.side (inR .i64 (dgF l (0 + Int.toNat (TOp.a (List.getD ops (Int.toNat (↑i : Int)) TOp.nil))) + dgF l (0 + Int.toNat (TOp.b (List.getD ops (Int.toNat (↑i : Int)) TOp.nil))))) (.side (0 = 0 ∧ l.length ≤ l.length ∧ (l.length + 1) * 8 ≤ 140737488355328) (.side (inR .i64 ((↑i : Int) + (1 : Int))) (.leaf (.back 0 [(1, .int .i64 k), (2, .ptr 0 0), (7, .osl 1 1 0 (l.length + 1)), (8, .int .i64 ((↑i : Int) + (1 : Int))), (69, .undef), (70, .undef), (71, .undef), (72, .undef), (73, .undef), (74, .undef), (97, .undef), (98, .undef), (99, .undef), (100, .undef), (101, .undef), (102, .undef)] [.box [.int .i64 n, .sl ops.length 4 (opG ops)], .arr (l.length + 1) 1 (appG l.length (fun (j x : Nat) => .int .i64 (dgF l j)) (zf (ze 1 [.int .i64 (min (dgF l (0 + Int.toNat (TOp.a (List.getD ops (Int.toNat (↑i : Int)) TOp.nil))) + dgF l (0 + Int.toNat (TOp.b (List.getD ops (Int.toNat (↑i : Int)) TOp.nil)))) (1000 : Int))]) 0)), .box [.int .u8 (TOp.kind (List.getD ops (Int.toNat (↑i : Int)) TOp.nil)), .int .i64 (TOp.a (List.getD ops (Int.toNat (↑i : Int)) TOp.nil)), .int .i64 (TOp.b (List.getD ops (Int.toNat (↑i : Int)) TOp.nil)), .str (TOp.rat (List.getD ops (Int.toNat (↑i : Int)) TOp.nil))], .arr 1 1 (ze 1 [.int .i64 (min (dgF l (0 + Int.toNat (TOp.a (List.getD ops (Int.toNat (↑i : Int)) TOp.nil))) + dgF l (0 + Int.toNat (TOp.b (List.getD ops (Int.toNat (↑i : Int)) TOp.nil)))) (1000 : Int))])]))))))) (.side (decide (TOp.kind (List.getD ops (Int.toNat (↑i : Int)) TOp.nil) = (6 : Int)) = true → (0 : Int) ≤ TOp.b (List.getD ops (Int.toNat (↑i : Int)) TOp.nil) ∧ TOp.b (List.getD ops (Int.toNat (↑i : Int)) TOp.nil) < (↑l.length : Int)) (.ite (bif decide (TOp.kind (List.getD ops (Int.toNat (↑i : Int)) TOp.nil) = (6 : Int)) then decide ((0 : Int) < dgF l (0 + Int.toNat (TOp.b (List.getD ops (Int.toNat (↑i : Int)) TOp.nil)))) else false) (.side (0 = 0 ∧ l.length ≤ l.length ∧ (l.length + 1) * 8 ≤ 140737488355328) (.side (inR .i64 ((↑i : Int) + (1 : Int))) (.leaf (.back 0 [(1, .int .i64 k), (2, .ptr 0 0), (7, .osl 1 1 0 (l.length + 1)), (8, .int .i64 ((↑i : Int) + (1 : Int))), (69, .undef), (70, .undef), (71, .undef), (72, .undef), (73, .undef), (74, .undef), (97, .undef), (98, .undef), (99, .undef), (100, .undef), (101, .undef), (102, .undef)] [.box [.int .i64 n, .sl ops.length 4 (opG ops)], .arr (l.length + 1) 1 (appG l.length (fun (j x : Nat) => .int .i64 (dgF l j)) (zf (ze 1 [.int .i64 (-1 : Int)]) 0)), .box [.int .u8 (TOp.kind (List.getD ops (Int.toNat (↑i : Int)) TOp.nil)), .int .i64 (TOp.a (List.getD ops (Int.toNat (↑i : Int)) TOp.nil)), .int .i64 (TOp.b (List.getD ops (Int.toNat (↑i : Int)) TOp.nil)), .str (TOp.rat (List.getD ops (Int.toNat (↑i : Int)) TOp.nil))], .arr 1 1 (ze 1 [.int .i64 (-1 : Int)])])))) (.ite (decide (TOp.kind (List.getD ops (Int.toNat (↑i : Int)) TOp.nil) = (6 : Int))) (.side ((0 : Int) ≤ TOp.a (List.getD ops (Int.toNat (↑i : Int)) TOp.nil) ∧ TOp.a (List.getD ops (Int.toNat (↑i : Int)) TOp.nil) < (↑l.length : Int)) (.side (0 = 0 ∧ l.length ≤ l.length ∧ (l.length + 1) * 8 ≤ 140737488355328) (.side (inR .i64 ((↑i : Int) + (1 : Int))) (.leaf (.back 0 [(1, .int .i64 k), (2, .ptr 0 0), (7, .osl 1 1 0 (l.length + 1)), (8, .int .i64 ((↑i : Int) + (1 : Int))), (69, .undef), (70, .undef), (71, .undef), (72, .undef), (73, .undef), (74, .undef), (97, .undef), (98, .undef), (99, .undef), (100, .undef), (101, .undef), (102, .undef)] [.box [.int .i64 n, .sl ops.length 4 (opG ops)], .arr (l.length + 1) 1 (appG l.length (fun (j x : Nat) => .int .i64 (dgF l j)) (zf (ze 1 [.int .i64 (dgF l (0 + Int.toNat (TOp.a (List.getD ops (Int.toNat (↑i : Int)) TOp.nil))))]) 0)), .box [.int .u8 (TOp.kind (List.getD ops (Int.toNat (↑i : Int)) TOp.nil)), .int .i64 (TOp.a (List.getD ops (Int.toNat (↑i : Int)) TOp.nil)), .int .i64 (TOp.b (List.getD ops (Int.toNat (↑i : Int)) TOp.nil)), .str (TOp.rat (List.getD ops (Int.toNat (↑i : Int)) TOp.nil))], .arr 1 1 (ze 1 [.int .i64 (dgF l (0 + Int.toNat (TOp.a (List.getD ops (Int.toNat (↑i : Int)) TOp.nil))))])]))))) (.side ((0 : Int) ≤ TOp.a (List.getD ops (Int.toNat (↑i : Int)) TOp.nil) ∧ TOp.a (List.getD ops (Int.toNat (↑i : Int)) TOp.nil) < (↑l.length : Int)) (.side ((0 : Int) ≤ TOp.b (List.getD ops (Int.toNat (↑i : Int)) TOp.nil) ∧ TOp.b (List.getD ops (Int.toNat (↑i : Int)) TOp.nil) < (↑l.length : Int)) (.side (0 = 0 ∧ l.length ≤ l.length ∧ (l.length + 1) * 8 ≤ 140737488355328) (.side (inR .i64 ((↑i : Int) + (1 : Int))) (.leaf (.back 0 [(1, .int .i64 k), (2, .ptr 0 0), (7, .osl 1 1 0 (l.length + 1)), (8, .int .i64 ((↑i : Int) + (1 : Int))), (69, .undef), (70, .undef), (71, .undef), (72, .undef), (73, .undef), (74, .undef), (97, .undef), (98, .undef), (99, .undef), (100, .undef), (101, .undef), (102, .undef)] [.box [.int .i64 n, .sl ops.length 4 (opG ops)], .arr (l.length + 1) 1 (appG l.length (fun (j x : Nat) => .int .i64 (dgF l j)) (zf (ze 1 [.int .i64 (max (dgF l (0 + Int.toNat (TOp.a (List.getD ops (Int.toNat (↑i : Int)) TOp.nil)))) (dgF l (0 + Int.toNat (TOp.b (List.getD ops (Int.toNat (↑i : Int)) TOp.nil)))))]) 0)), .box [.int .u8 (TOp.kind (List.getD ops (Int.toNat (↑i : Int)) TOp.nil)), .int .i64 (TOp.a (List.getD ops (Int.toNat (↑i : Int)) TOp.nil)), .int .i64 (TOp.b (List.getD ops (Int.toNat (↑i : Int)) TOp.nil)), .str (TOp.rat (List.getD ops (Int.toNat (↑i : Int)) TOp.nil))], .arr 1 1 (ze 1 [.int .i64 (max (dgF l (0 + Int.toNat (TOp.a (List.getD ops (Int.toNat (↑i : Int)) TOp.nil)))) (dgF l (0 + Int.toNat (TOp.b (List.getD ops (Int.toNat (↑i : Int)) TOp.nil)))))])])))))))))))))))) (.side (inR .i64 ((↑l.length : Int) - (1 : Int))) (.side ((0 : Int) ≤ l.length - (1 : Int) ∧ (↑l.length : Int) - (1 : Int) < l.length) (.leaf (.ret [.int .i64 (dgF l (0 + Int.toNat ((↑l.length : Int) - (1 : Int)))), .int .i64 0] [.box [.int .i64 n, .sl ops.length 4 (opG ops)], .arr l.length 1 fun (j x : Nat) => .int .i64 (dgF l j)]))))) (by kernel_rfl) ?_
 simp only [Tree.holds, zc, inR, lo, hi, Int.toNat_natCast, Nat.zero_add]
 refine ⟨fun hlt => ?_, fun hge => ?_⟩
 ·have hlt : i < ops.length := by have := of_decide_eq_true hlt; omega
  have hok := kq c5 hlt
  rw [QI hlt] at hlr
  obtain ⟨o, ho⟩ : ∃ o, ops.getD i TOp.nil = o := ⟨_, rfl⟩
  rw [ho] at hlr hok
  simp only [ho]
  simp only at hok
  have good : ∀ (v : Int) (b : Heap), degS k o l = v → (True ∧ l.length ≤ l.length ∧ (l.length + 1) * 8 ≤ 140737488355328) ∧ (True ∧ l.length ≤ l.length ∧ (l.length + 1) * 8 ≤ 140737488355328 → (-9223372036854775808 ≤ (i : Int) + 1 ∧ (i : Int) + 1 ≤ 9223372036854775807) ∧ (-9223372036854775808 ≤ (i : Int) + 1 ∧ (i : Int) + 1 ≤ 9223372036854775807 → if True then
    ∃ x' : {p : Nat × List Int // p.1 ≤ ops.length ∧ p.2.length = p.1 ∧ (∀ j, degB (p.2.getD j 0)) ∧ degF k (ops.drop p.1) p.2 = degF k ops []}, ops.length - x'.1.1 < ops.length - i ∧
    LeK 0 Try.f15.ntmps [(1, .int .i64 k), (2, .ptr 0 0), (7, .osl 1 1 0 (l.length + 1)), (8, .int .i64 ((i : Int) + 1)), (69, .undef), (70, .undef), (71, .undef), (72, .undef), (73, .undef), (74, .undef), (97, .undef), (98, .undef), (99, .undef), (100, .undef), (101, .undef), (102, .undef)] ([.box [.int .i64 n, opS ops], .arr (l.length + 1) 1 (appG l.length (tgI .i64 (dgF l)) (zf (ze 1 [.int .i64 v]) 0))] ++ b) (StDg k x'.1.2 x'.1.1) (HtDg n ops x'.1.2) else False)) := by
   rintro v b rfl
   refine ⟨⟨trivial, Nat.le_refl _, by omega⟩, fun _ => ⟨by omega, fun _ => ?_⟩⟩
   rw [if_pos trivial]
   refine ⟨⟨(i + 1, l ++ [degS k o l]), hlt, by simp [hll], fun j => ?_, hlr⟩, by show ops.length - (i + 1) < ops.length - i; omega, by simp [StDg], ?_, by kernel_rfl, Nat.zero_le _⟩
   ·have hd := U3 (i := k) (o := o) hlb
    have hj := hlb j
    simp only [List.getD, List.getElem?_append] at hj ⊢
    split
    ·exact hj
    ·rename_i g
     by_cases g2 : j - l.length = 0
     ·rw [g2]; exact hd
     ·rw [List.getElem?_eq_none (by simp; omega)]; exact ⟨by decide, by decide⟩
   ·simp only [HtDg, List.cons_append]
    exact ⟨by simp [opS, za], ⟨by simp, rfl, zaz⟩, by cases b <;> trivial⟩
  have h1 := qW hok
  have ha : degB (dgF l o.a.toNat) := hlb o.a.toNat
  have hb : degB (dgF l o.b.toNat) := hlb o.b.toNat
  refine ⟨by omega, fun _ => ⟨fun k1 => ⟨fun k2 => ?_, fun k2 => ?_⟩, fun k1 => ⟨fun k2 => ?_, fun k2 => ?_⟩⟩⟩
  ·exact good 1 [_, _] (by unfold degS; rw [if_pos (of_decide_eq_true k1), if_pos (of_decide_eq_true k2)])
  ·exact good 0 [_, _] (by unfold degS; rw [if_pos (of_decide_eq_true k1), if_neg (of_decide_eq_false k2)])
  ·exact good 0 [_, _] (by unfold degS; rw [if_neg (of_decide_eq_false k1), if_pos (of_decide_eq_true k2)])
  ·have k1 := of_decide_eq_false k1
   have k2 := of_decide_eq_false k2
   have e0 : degS k o l = if dgF l o.a.toNat < 0 ∨ dgF l o.b.toNat < 0 then -1 else if o.kind = 5 then min (dgF l o.a.toNat + dgF l o.b.toNat) 1000 else if o.kind = 6 then (if 0 < dgF l o.b.toNat then -1 else dgF l o.a.toNat) else max (dgF l o.a.toNat) (dgF l o.b.toNat) := by
    unfold degS
    rw [if_neg k1, if_neg k2]; rfl
   generalize dgF l o.a.toNat = x at *
   generalize dgF l o.b.toNat = y at *
   obtain ⟨ha1, ha2⟩ := ha
   obtain ⟨hb1, hb2⟩ := hb
   have ra : (0 : Int) ≤ o.a ∧ o.a < l.length := by omega
   have rb : (0 : Int) ≤ o.b ∧ o.b < l.length := by omega
   refine ⟨ra, fun _ => ⟨fun _ => rb, fun _ => ⟨fun k3 => ?_, fun k3 => ?_⟩⟩⟩
   ·refine good (-1) [_, _] ?_
    rw [e0, if_pos]
    by_cases g1 : x < 0
    ·exact .inl g1
    ·rw [decide_eq_false g1] at k3
     exact .inr (of_decide_eq_true k3)
   ·rw [orf] at k3
    have k5 : ¬ (x < 0 ∨ y < 0) := by
     have := of_decide_eq_false k3.1
     have := of_decide_eq_false k3.2
     omega
    rw [if_neg k5] at e0
    refine ⟨fun k4 => ⟨ra, fun _ => ⟨rb, fun _ => ⟨by omega, fun _ => ?_⟩⟩⟩, fun k4 => ⟨fun _ => rb, fun _ => ⟨fun k6 => ?_, fun k6 => ⟨fun k7 => ?_, fun k7 => ?_⟩⟩⟩⟩
    ·exact good _ [_, _] (by rw [e0, if_pos (of_decide_eq_true k4)])
    ·rw [andt] at k6
     exact good _ [_, _] (by rw [e0, if_neg (of_decide_eq_false k4), if_pos (of_decide_eq_true k6.1), if_pos (of_decide_eq_true k6.2)])
    ·have g6 := of_decide_eq_true k7
     rw [decide_eq_true g6] at k6
     have g7 : ¬ 0 < y := of_decide_eq_false k6
     refine ⟨ra, fun _ => ?_⟩
     exact good _ [_, _] (by rw [e0, if_neg (of_decide_eq_false k4), if_pos g6, if_neg g7])
    ·refine ⟨ra, fun _ => ⟨rb, fun _ => ?_⟩⟩
     exact good _ [_, _] (by rw [e0, if_neg (of_decide_eq_false k4), if_neg (of_decide_eq_false k7)])
 ·have hge : i = ops.length := by have := of_decide_eq_false hge; omega
  subst hge
  rw [Wa] at hlr
  refine ⟨by omega, fun _ => ⟨by omega, fun _ => ?_⟩⟩
  simp only at hq
  rw [← hlr] at hq
  have e : ((l.length : Int) - 1).toNat = ops.length - 1 := by omega
  rw [e]
  exact RetR.scal hq rfl (by simp [resV, dgF])
theorem xD {α : Type} {l m : List α} {i : Nat} {z : α} (h1 : i < l.length) (h2 : i < m.length) (h : l.take i = m.take i) (hg : l.getD i z = m.getD i z) : l.take (i + 1) = m.take (i + 1) := by
 rw [List.take_add_one, List.take_add_one, h]
 congr 1
 simp only [List.getD, List.getElem?_eq_getElem h1, List.getElem?_eq_getElem h2, Option.getD_some] at hg ⊢
 rw [hg]
theorem zbg (l : List TOp) (j o : Nat) (ho : o < 4) : zP (opG l j o) = true := by
 match o, ho with
 | 0, _ => rfl
 | 1, _ => rfl
 | 2, _ => rfl
 | 3, _ => rfl
def StSr (l m : List (List UInt8)) (i : Nat) : KV := [(0, ratS l), (1, ratS m), (5, .int .i64 (i : Int))]
def V5 : Ctr := ctrP true (fun p : List (List UInt8) × List (List UInt8) => [ratS p.1, ratS p.2]) (fun p => p.1.length < 2 ^ 60) (fun p r => (r = true ↔ p.1 = p.2)) (fun _ (r : Bool) => (.bool r, []))
theorem YA : zd Try.prog 16 V5 := by
 refine zg (fn := Try.f16) (c := Try.f16.body.getD .skip) rfl rfl rfl fun p hp O w0 Q hq => ?_
 obtain ⟨l, m⟩ := p
 simp only at hp hq
 refine zb.run hmix zy [0, 1, 5] 400 (T := .ite (!decide ((↑l.length : Int) = m.length)) (.leaf (.ret [.bool false] [])) (.leaf (.loop (Prod.fst (lps K16 0)) (Prod.snd (lps K16 0)) [(0, .sl l.length 1 (ratG l)), (1, .sl m.length 1 (ratG m)), (5, .int .i64 0)] []))) (by kernel_rfl) ?_
 simp only [Tree.holds, zc]
 have no : ∀ h, l ≠ m → RetR V5 0 Q [.bool false] h := fun h g => RetR.scal (hq false (by simp [g])) rfl (by simp [resV])
 refine ⟨fun h => no _ ?_, fun h => ?_⟩
 ·intro g; rw [g] at h; simp at h
 have hlm : l.length = m.length := Int.ofNat.inj (show (l.length : Int) = m.length by simpa using h)
 refine zb.loop (ι := {i : Nat // i ≤ l.length ∧ l.take i = m.take i}) (fun i => StSr l m i.1) (fun _ => []) (fun i => l.length - i.1) ⟨0, Nat.zero_le _, by simp⟩ 0 ?_ ?_ (by kernel_rfl)
 ·exact ⟨by simp [StSr, ratS, za], by simp, by kernel_rfl, Nat.zero_le _⟩
 rintro ⟨i, hil, hie⟩
 refine zb.run hmix zy [0, 1, 5] 400 (T := .ite (decide ((↑i : Int) < l.length)) (.side ((0 : Int) ≤ i ∧ (↑i : Int) < l.length) (.side ((0 : Int) ≤ i ∧ (↑i : Int) < m.length) (.ite (!decide (List.getD l (Int.toNat (↑i : Int)) [] = List.getD m (Int.toNat (↑i : Int)) [])) (.leaf (.ret [.bool false] [])) (.side (inR .i64 ((↑i : Int) + (1 : Int))) (.leaf (.back 0 [(0, .sl l.length 1 (ratG l)), (1, .sl m.length 1 (ratG m)), (5, .int .i64 ((↑i : Int) + (1 : Int)))] [])))))) (.leaf (.ret [.bool true] []))) (by kernel_rfl) ?_
 simp only [Tree.holds, zc, inR, lo, hi, Int.toNat_natCast, Nat.zero_add]
 refine ⟨fun hlt => ?_, fun hge => ?_⟩
 ·have hlt : i < l.length := by have := of_decide_eq_true hlt; omega
  refine ⟨by omega, fun _ => ⟨by omega, fun _ => ⟨fun h1 => no _ ?_, fun h1 => ⟨by omega, fun _ => ?_⟩⟩⟩⟩
  ·intro g; rw [g] at h1; simp at h1
  ·have h1 : l.getD i [] = m.getD i [] := by
    cases hd : decide (l.getD i [] = m.getD i []) with
    | true => exact of_decide_eq_true hd
    | false => rw [hd] at h1; cases h1
   rw [if_pos trivial]
   refine ⟨⟨i + 1, hlt, xD hlt (by omega) hie h1⟩, by show l.length - (i + 1) < l.length - i; omega, by simp [StSr, ratS, za], by simp, by kernel_rfl, Nat.zero_le _⟩
 ·have hge : i = l.length := by have := of_decide_eq_false hge; omega
  subst hge
  rw [List.take_length, hlm, List.take_length] at hie
  exact RetR.scal (hq true (by simp [hie])) rfl (by simp [resV])
def StSt (i : Nat) : KV := [(2, .ptr 0 0), (3, .ptr 1 0), (5, .int .i64 (i : Int))]
def HtSt (n n' : Int) (l m : List TOp) : Heap := [.box [.int .i64 n, opS l], .box [.int .i64 n', opS m]]
def Vg : Ctr := ctrP true (fun p : Tp × Tp => [p.1.av, p.2.av]) (fun p => p.1.ops.length < 2 ^ 60) (fun p r => (r = true ↔ p.1 = p.2)) (fun _ (r : Bool) => (.bool r, []))
theorem Y3 : zd Try.prog 19 Vg := by
 refine zg (fn := Try.f19) (c := Try.f19.body.getD .skip) rfl rfl rfl fun p hp O w0 Q hq => ?_
 obtain ⟨⟨n, l⟩, ⟨n', m⟩⟩ := p
 simp only at hp hq
 refine zb.run hmix zy [2, 3, 5] 400 (T := .ite (bif !decide (n = n') then true else !decide ((↑l.length : Int) = m.length)) (.leaf (.ret [.bool false] [.box [.int .i64 n, .sl l.length 4 (opG l)], .box [.int .i64 n', .sl m.length 4 (opG m)]])) (.leaf (.loop (Prod.fst (lps K19 0)) (Prod.snd (lps K19 0)) [(2, .ptr 0 0), (3, .ptr 1 0), (5, .int .i64 0)] [.box [.int .i64 n, .sl l.length 4 (opG l)], .box [.int .i64 n', .sl m.length 4 (opG m)]]))) (by kernel_rfl) ?_
 simp only [Tree.holds, zc]
 have no : ∀ h, Tp.mk n l ≠ Tp.mk n' m → RetR Vg 0 Q [.bool false] h := fun h g => RetR.scal (hq false (by simp [g])) rfl (by simp [resV])
 refine ⟨fun h => no _ ?_, fun h => ?_⟩
 ·intro g; cases g; simp at h
 rw [orf] at h
 have hn : n = n' := by simpa using h.1
 have hlm : l.length = m.length := Int.ofNat.inj (show (l.length : Int) = m.length by simpa using h.2)
 subst hn
 refine zb.loop (ι := {i : Nat // i ≤ l.length ∧ l.take i = m.take i}) (fun i => StSt i.1) (fun _ => HtSt n n l m) (fun i => l.length - i.1) ⟨0, Nat.zero_le _, by simp⟩ 0 ?_ ?_ (by kernel_rfl)
 ·exact ⟨by simp [StSt], by simp [HtSt, opS, za], by kernel_rfl, Nat.zero_le _⟩
 rintro ⟨i, hil, hie⟩
 refine zb.run hmix zy [2, 3, 5] 400 (T := .ite (decide ((↑i : Int) < l.length)) (.side ((0 : Int) ≤ i ∧ (↑i : Int) < l.length) (.side ((0 : Int) ≤ i ∧ (↑i : Int) < m.length) (.ite (!(decide (TOp.kind (List.getD l (Int.toNat (↑i : Int)) TOp.nil) = TOp.kind (List.getD m (Int.toNat (↑i : Int)) TOp.nil)) && (decide (TOp.a (List.getD l (Int.toNat (↑i : Int)) TOp.nil) = TOp.a (List.getD m (Int.toNat (↑i : Int)) TOp.nil)) && (decide (TOp.b (List.getD l (Int.toNat (↑i : Int)) TOp.nil) = TOp.b (List.getD m (Int.toNat (↑i : Int)) TOp.nil)) && (decide (TOp.rat (List.getD l (Int.toNat (↑i : Int)) TOp.nil) = TOp.rat (List.getD m (Int.toNat (↑i : Int)) TOp.nil)) && true))))) (.leaf (.ret [.bool false] [.box [.int .i64 n, .sl l.length 4 (opG l)], .box [.int .i64 n, .sl m.length 4 (opG m)]])) (.side (inR .i64 ((↑i : Int) + (1 : Int))) (.leaf (.back 0 [(2, .ptr 0 0), (3, .ptr 1 0), (5, .int .i64 ((↑i : Int) + (1 : Int)))] [.box [.int .i64 n, .sl l.length 4 (opG l)], .box [.int .i64 n, .sl m.length 4 (opG m)]])))))) (.leaf (.ret [.bool true] [.box [.int .i64 n, .sl l.length 4 (opG l)], .box [.int .i64 n, .sl m.length 4 (opG m)]]))) (by kernel_rfl) ?_
 simp only [Tree.holds, zc, inR, lo, hi, Int.toNat_natCast, Nat.zero_add]
 refine ⟨fun hlt => ?_, fun hge => ?_⟩
 ·have hlt : i < l.length := by have := of_decide_eq_true hlt; omega
  refine ⟨by omega, fun _ => ⟨by omega, fun _ => ⟨fun h1 => no _ ?_, fun h1 => ⟨by omega, fun _ => ?_⟩⟩⟩⟩
  ·intro g; cases g; simp at h1
  ·have h1 : l.getD i TOp.nil = m.getD i TOp.nil := by
    simp only [Bool.not_eq_false', Bool.and_eq_true, decide_eq_true_eq, and_true] at h1
    generalize l.getD i TOp.nil = x at h1 ⊢
    generalize m.getD i TOp.nil = y at h1 ⊢
    obtain ⟨a, b, c, d⟩ := x
    obtain ⟨a', b', c', d'⟩ := y
    simp only at h1
    obtain ⟨rfl, rfl, rfl, rfl⟩ := h1
    rfl
   rw [if_pos trivial]
   refine ⟨⟨i + 1, hlt, xD hlt (by omega) hie h1⟩, by show l.length - (i + 1) < l.length - i; omega, by simp [StSt], by simp [HtSt, opS, za], by kernel_rfl, Nat.zero_le _⟩
 ·have hge : i = l.length := by have := of_decide_eq_false hge; omega
  subst hge
  rw [List.take_length, hlm, List.take_length] at hie
  exact RetR.scal (hq true (by simp [hie])) rfl (by simp [resV])
def Uu : Ctr := ctrP true (fun t : Tp => [t.av]) (fun t => t.ops.length < 2 ^ 40) (fun _ (_ : Unit) => True) (fun t _ => (t.av, []))
theorem UH : zd Try.prog 9 Uu := by
 refine zg (fn := Try.f9) (c := Try.f9.body.getD .skip) rfl rfl rfl fun p hp O w0 Q hq => ?_
 obtain ⟨n, l⟩ := p
 replace hq := hq () trivial
 simp only at hp hq
 refine zb.run hmix zy [] 400 (T := .side (0 = 0 ∧ 0 ≤ 0 ∧ (0 + l.length) * 40 ≤ 140737488355328) (.leaf (.ret [.agg [.int .i64 n, .osl 2 4 0 (0 + l.length)]] [.box [.int .i64 n, .osl 2 4 0 (0 + l.length)], .box [.int .i64 n, .osl 2 4 0 (0 + l.length)], .arr (0 + l.length) 4 (appG 0 (ze 4 []) (opG l))]))) (by kernel_rfl) ?_
 simp only [Tree.holds, zc]
 refine ⟨⟨trivial, Nat.le_refl _, by omega⟩, fun _ => ?_⟩
 refine RetR.out0 hq (fun _ => ?_) ?_
 ·simp only [resV, new2, new1, List.mem_cons, List.not_mem_nil, or_false, forall_eq_or_imp, forall_eq]
  refine ⟨rfl, fun _ => ?_⟩
  simp only [exp0, z8, frz1, ju, List.getElem?_cons_succ, List.getElem?_cons_zero, if_true, KE]
  intro j o hj ho
  simp only [zf, appG, Nat.zero_add, Nat.not_lt_zero, if_false, Nat.sub_zero]
  exact zbg _ _ _ ho
 ·simp only [resV, exp2, exp1, List.map_cons, List.map_nil]
  refine ⟨⟨rfl, rfl⟩, ?_, trivial⟩
  simp only [exp0, z8, frz1, ju, List.getElem?_cons_succ, List.getElem?_cons_zero, if_true]
  exact ⟨by simp, rfl, fun j o _ _ => by simp [zf, appG]⟩
def Xe (t : Tp) (l : List (List UInt8)) : Prop := t.ops.length ≤ 520 ∧ (t.ops.length ≤ 60 ∨ 500 < t.ops.length) ∧ l.length ≤ 60 ∧ (∀ j, j < t.ops.length → (t.ops.getD j TOp.nil).rat.length ≤ 200) ∧ ∀ j, j < l.length → (l.getD j []).length ≤ 200
def Xl : Ctr := ctrP true (fun p : Tp × List (List UInt8) => [p.1.av, ratS p.2]) (fun p => ji p.1 ∧ vQ p.2) (fun p r => r = false → Xe p.1 p.2) (fun _ (r : Bool) => (.bool r, []))
def StGr (m : List (List UInt8)) (i : Nat) : KV := [(1, ratS m), (2, .ptr 0 0), (5, .int .i64 (i : Int)), (6, .undef)]
def HtGr (n : Int) (l : List TOp) : Heap := [.box [.int .i64 n, opS l]]
def StGs (m : List (List UInt8)) (i : Nat) : KV := [(1, ratS m), (2, .undef), (5, .undef), (6, .int .i64 (i : Int))]
theorem XF : zd Try.prog 8 Xl := by
 refine zg (fn := Try.f8) (c := Try.f8.body.getD .skip) rfl rfl rfl fun p hp O w0 Q hq => ?_
 obtain ⟨⟨n, l⟩, m⟩ := p
 obtain ⟨h1, h2⟩ := hp
 simp only at h1 h2 hq
 refine zb.run hmix zy [1, 2, 5, 6] 400 (T := .ite (bif bif bif decide ((60 : Int) < l.length) then decide ((↑l.length : Int) ≤ 500) else false then true else decide ((520 : Int) < l.length) then true else decide ((60 : Int) < m.length)) (.leaf (.ret [.bool true] [.box [.int .i64 n, .sl l.length 4 (opG l)]])) (.leaf (.loop (Prod.fst (lps K8 0)) (Prod.snd (lps K8 0)) [(1, .sl m.length 1 (ratG m)), (2, .ptr 0 0), (5, .int .i64 0), (6, .undef)] [.box [.int .i64 n, .sl l.length 4 (opG l)]]))) (by kernel_rfl) ?_
 simp only [Tree.holds, zc]
 refine ⟨fun h => RetR.scal (hq true (fun g => by cases g)) rfl (by simp [resV]), fun h => ?_⟩
 simp only [orf] at h
 have hfit : l.length ≤ 520 ∧ (l.length ≤ 60 ∨ 500 < l.length) ∧ m.length ≤ 60 := by
  obtain ⟨⟨ha, hb⟩, hc⟩ := h
  have hb := of_decide_eq_false hb
  have hc := of_decide_eq_false hc
  refine ⟨by omega, ?_, by omega⟩
  by_cases g : l.length ≤ 60
  ·exact .inl g
  ·rw [decide_eq_true (show (60 : Int) < l.length by omega)] at ha
   have ha : ¬ ((l.length : Int) ≤ 500) := by simpa using ha
   exact .inr (by omega)
 refine zb.loop (ι := {i : Nat // i ≤ l.length ∧ ∀ j, j < i → (l.getD j TOp.nil).rat.length ≤ 200}) (fun i => StGr m i.1) (fun _ => HtGr n l) (fun i => l.length - i.1) ⟨0, Nat.zero_le _, fun j q => absurd q (Nat.not_lt_zero j)⟩ 0 ?_ ?_ (by kernel_rfl)
 ·exact ⟨by simp [StGr, ratS, za], by simp [HtGr, opS, za], by kernel_rfl, Nat.zero_le _⟩
 rintro ⟨i, hil, hie⟩
 refine zb.run hmix zy [1, 2, 5, 6] 400 (T := .ite (decide ((↑i : Int) < l.length)) (.side ((0 : Int) ≤ i ∧ (↑i : Int) < l.length) (.ite (decide ((200 : Int) < (↑(List.length (TOp.rat (List.getD l (Int.toNat (↑i : Int)) TOp.nil))) : Int))) (.leaf (.ret [.bool true] [.box [.int .i64 n, .sl l.length 4 (opG l)]])) (.side (inR .i64 ((↑i : Int) + (1 : Int))) (.leaf (.back 0 [(1, .sl m.length 1 (ratG m)), (2, .ptr 0 0), (5, .int .i64 ((↑i : Int) + (1 : Int))), (6, .undef)] [.box [.int .i64 n, .sl l.length 4 (opG l)]]))))) (.leaf (.loop (Prod.fst (lps (inside K8 0) 0)) (Prod.snd (lps (inside K8 0) 0)) [(1, .sl m.length 1 (ratG m)), (2, .ptr 0 0), (5, .int .i64 i), (6, .int .i64 0)] [.box [.int .i64 n, .sl l.length 4 (opG l)]]))) (by kernel_rfl) ?_
 simp only [Tree.holds, zc, inR, lo, hi, Int.toNat_natCast, Nat.zero_add]
 refine ⟨fun hlt => ?_, fun hge => ?_⟩
 ·have hlt : i < l.length := by have := of_decide_eq_true hlt; omega
  refine ⟨by omega, fun _ => ⟨fun _ => RetR.scal (hq true (fun g => by cases g)) rfl (by simp [resV]), fun h3 => ⟨by omega, fun _ => ?_⟩⟩⟩
  rw [if_pos trivial]
  have h3 := of_decide_eq_false h3
  refine ⟨⟨i + 1, hlt, fun j hj => ?_⟩, by show l.length - (i + 1) < l.length - i; omega, by simp [StGr, ratS, za], by simp [HtGr, opS, za], by kernel_rfl, Nat.zero_le _⟩
  rcases Nat.lt_or_ge j i with g | g
  ·exact hie j g
  ·obtain rfl : j = i := by omega
   omega
 have hge : i = l.length := by have := of_decide_eq_false hge; omega
 subst hge
 refine zb.loop (ι := {i : Nat // i ≤ m.length ∧ ∀ j, j < i → (m.getD j []).length ≤ 200}) (fun i => StGs m i.1) (fun _ => []) (fun i => m.length - i.1) ⟨0, Nat.zero_le _, fun j q => absurd q (Nat.not_lt_zero j)⟩ 0 ?_ ?_ (by kernel_rfl)
 ·exact ⟨by simp [StGs, ratS, za], by simp, by kernel_rfl, Nat.zero_le _⟩
 rintro ⟨i, hil, hif⟩
 refine zb.run hmix zy [1, 2, 5, 6] 400 (T := .ite (decide ((↑i : Int) < m.length)) (.side ((0 : Int) ≤ i ∧ (↑i : Int) < m.length) (.ite (decide ((200 : Int) < (↑(List.length (List.getD m (Int.toNat (↑i : Int)) [])) : Int))) (.leaf (.ret [.bool true] [])) (.side (inR .i64 ((↑i : Int) + (1 : Int))) (.leaf (.back 0 [(1, .sl m.length 1 (ratG m)), (2, .undef), (5, .undef), (6, .int .i64 ((↑i : Int) + (1 : Int)))] []))))) (.leaf (.ret [.bool false] []))) (by kernel_rfl) ?_
 simp only [Tree.holds, zc, inR, lo, hi, Int.toNat_natCast, Nat.zero_add]
 refine ⟨fun hlt => ?_, fun hge => ?_⟩
 ·have hlt : i < m.length := by have := of_decide_eq_true hlt; omega
  refine ⟨by omega, fun _ => ⟨fun _ => RetR.scal (hq true (fun g => by cases g)) rfl (by simp [resV]), fun h3 => ⟨by omega, fun _ => ?_⟩⟩⟩
  rw [if_pos trivial]
  have h3 := of_decide_eq_false h3
  refine ⟨⟨i + 1, hlt, fun j hj => ?_⟩, by show m.length - (i + 1) < m.length - i; omega, by simp [StGs, ratS, za], by simp, by kernel_rfl, Nat.zero_le _⟩
  rcases Nat.lt_or_ge j i with g | g
  ·exact hif j g
  ·obtain rfl : j = i := by omega
   omega
 ·have hge : i = m.length := by have := of_decide_eq_false hge; omega
  subst hge
  exact RetR.scal (hq false (fun _ => ⟨hfit.1, hfit.2.1, hfit.2.2, hie, hif⟩)) rfl (by simp [resV])
end Go.Proofs.Try
end

/- The law of runs. -/
section
set_option maxRecDepth 100000
open Go Go.Sx Go.Proofs Go.Nov
namespace Go.Proofs.Try
attribute [local simp] eqKV eqA eqA0 eqH eqB eqL eqL0
noncomputable def K3 : List Go.Sx.Item := [.code (Try.f3.body.getD .skip)]
theorem XJ {t : Tp} {l : List (List UInt8)} (h : Xe t l) : midT t ∧ midR l := by
 obtain ⟨a, _, b, c, d⟩ := h
 exact ⟨⟨by omega, fun j hj => by have := c j hj; omega⟩, by omega, fun j hj => by have := d j hj; omega⟩
theorem Xx {inp : List (List UInt8)} : ∀ (ops : List TOp) (out : List (List UInt8)), (runF inp ops out).1.length ≤ out.length + ops.length
 | [], out => by simp [runF]
 | o :: l, out => by
  unfold runF
  split
  ·simp
  ·have := Xx (inp := inp) l (out ++ [(z7 inp out o).1])
   simp only [List.length_append, List.length_cons, List.length_nil] at this ⊢
   omega
theorem zay {t : Tp} {inp : List (List UInt8)} : (trun t inp).1.length ≤ t.ops.length := by
 unfold trun
 split
 ·simp
 ·have := Xx (inp := inp) t.ops []
  simpa using this
theorem KL {g : Nat → Nat → AV} : zf g 0 = g := by funext j o; simp [zf]
def StLw (inp : List (List UInt8)) (N x : Nat) : KV := [(1, ratS inp), (3, .ptr 0 0), (7, .ptr 2 0), (8, .osl 1 1 0 inp.length), (9, .osl 3 1 0 N), (21, .bool true), (22, .int .i64 (x : Int)), (113, .undef), (114, .undef), (115, .undef), (118, .undef), (119, .undef), (120, .undef)]
def HtLw (n : Int) (ops : List TOp) (inp : List (List UInt8)) (N : Nat) (f : Nat → List UInt8) : Heap := [.box [.int .i64 n, opS ops], .arr inp.length 1 (ratG inp), .box [.int .i64 n, opS ops], .arrS N f]
def zec : Ctr := ctrP true (fun p : Tp × List (List UInt8) × Int => [p.1.av, ratS p.2.1, .int .i64 p.2.2]) (fun p => ji p.1 ∧ vQ p.2.1 ∧ inR .i64 p.2.2) (fun _ r => r = true) (fun _ (r : Bool) => (.bool r, []))
noncomputable def GUB : Nat → Option Ctr := fun f => if f = 8 then some (Xl) else if f = 9 then some (Uu) else if f = 10 then some (KG) else if f = 11 then some (Xa) else if f = 12 then some (zc1) else if f = 13 then some (zcb) else if f = 14 then some (zcc) else if f = 15 then some (zc6) else if f = 16 then some (V5) else if f = 17 then some (uq) else if f = 18 then some (yh) else if f = 19 then some (Vg) else none
theorem YK : ∀ g c, GUB g = some c → zd Try.prog g c := okIf XF (okIf UH (okIf KU (okIf KN (okIf zbx (okIf zaw (okIf zby (okIf zba (okIf YA (okIf y7 (okIf y8 (okIf Y3 (zq))))))))))))
theorem zb3 : zd Try.prog 3 zec := by
 refine zg (fn := Try.f3) (c := Try.f3.body.getD .skip) rfl rfl rfl fun p hp O w0 Q hq => ?_
 obtain ⟨⟨n, ops⟩, inp, i⟩ := p
 replace hq := hq _ rfl
 obtain ⟨h1, h2, h3⟩ := hp
 simp only at h1 h2 h3 hq
 refine zb.run hmix YK [1, 3, 7, 8, 9, 21, 22, 113, 114, 115, 118, 119, 120] 400 (T := .ex (fun (x : Tp × List (List UInt8)) => eqL [AV.agg [AV.int .i64 n, AV.sl ops.length 4 (opG ops)], AV.sl inp.length 1 (ratG inp)] [AV.agg [AV.int .i64 (Tp.n x.1), AV.sl (List.length (Tp.ops x.1)) 4 (opG (Tp.ops x.1))], AV.sl x.2.length 1 (ratG x.2)] ∧ ji x.1 ∧ vQ x.2) fun n_1 => .all (fun (r : Bool) => r = false → Xe n_1.1 n_1.2) fun n_2 => .ite n_2 (.leaf (.ret [.bool true] [.box [.int .i64 n, .sl ops.length 4 (opG ops)]])) (.ex (fun (x : Tp) => eqL [AV.agg [AV.int .i64 n, AV.sl ops.length 4 (opG ops)]] [AV.agg [AV.int .i64 (Tp.n x), AV.sl (List.length (Tp.ops x)) 4 (opG (Tp.ops x))]] ∧ List.length (Tp.ops x) < 1099511627776) fun n_3 => .all (fun (x : Unit) => True) fun n_4 => .side (0 = 0 ∧ 0 ≤ 0 ∧ (0 + inp.length) * 16 ≤ 140737488355328) (.ex (fun (x : Tp × List (List UInt8)) => eqL [AV.agg [AV.int .i64 n, AV.sl ops.length 4 (opG ops)], AV.sl inp.length 1 (ratG inp)] [AV.agg [AV.int .i64 (Tp.n x.1), AV.sl (List.length (Tp.ops x.1)) 4 (opG (Tp.ops x.1))], AV.sl x.2.length 1 (ratG x.2)] ∧ ji x.1 ∧ vQ x.2) fun n_5 => .all (fun (r : List (List UInt8) × Int) => r = trun n_5.1 n_5.2) fun n_6 => .ex (fun (x : Tp × List (List UInt8)) => eqL [AV.agg [AV.int .i64 n, AV.sl ops.length 4 (opG ops)], AV.sl inp.length 1 (ratG inp)] [AV.agg [AV.int .i64 (Tp.n x.1), AV.sl (List.length (Tp.ops x.1)) 4 (opG (Tp.ops x.1))], AV.sl x.2.length 1 (ratG x.2)] ∧ midT x.1 ∧ midR x.2) fun n_7 => .all (fun (r : List (List UInt8) × Int) => r = trun n_7.1 n_7.2) fun n_8 => .ex (fun (x : Tp × List (List UInt8)) => eqL [AV.agg [AV.int .i64 n, AV.sl ops.length 4 (opG ops)], AV.sl inp.length 1 (ratG inp)] [AV.agg [AV.int .i64 (Tp.n x.1), AV.sl (List.length (Tp.ops x.1)) 4 (opG (Tp.ops x.1))], AV.sl x.2.length 1 (ratG x.2)] ∧ ji x.1 ∧ vQ x.2) fun n_9 => .all (fun (r : List UInt8 × Int) => r = zA n_9.1 n_9.2) fun n_10 => .ex (fun (x : Tp × List (List UInt8)) => eqL [AV.agg [AV.int .i64 n, AV.sl ops.length 4 (opG ops)], AV.sl inp.length 1 (ratG inp)] [AV.agg [AV.int .i64 (Tp.n x.1), AV.sl (List.length (Tp.ops x.1)) 4 (opG (Tp.ops x.1))], AV.sl x.2.length 1 (ratG x.2)] ∧ midT x.1 ∧ midR x.2) fun n_11 => .all (fun (r : List UInt8 × Int) => r = zA n_11.1 n_11.2) fun n_12 => .ex (fun (x : Tp × Int) => eqL [AV.agg [AV.int .i64 n, AV.sl ops.length 4 (opG ops)], AV.int .i64 i] [AV.agg [AV.int .i64 (Tp.n x.1), AV.sl (List.length (Tp.ops x.1)) 4 (opG (Tp.ops x.1))], AV.int .i64 x.2] ∧ ji x.1) fun n_13 => .all (fun (r : Int × Int) => r = degT n_13.1 n_13.2) fun n_14 => .ex (fun (x : Tp × Int) => eqL [AV.agg [AV.int .i64 n, AV.sl ops.length 4 (opG ops)], AV.int .i64 i] [AV.agg [AV.int .i64 (Tp.n x.1), AV.sl (List.length (Tp.ops x.1)) 4 (opG (Tp.ops x.1))], AV.int .i64 x.2] ∧ midT x.1) fun n_15 => .all (fun (r : Int × Int) => r = degT n_15.1 n_15.2) fun n_16 => .ex (fun (x : List (List UInt8) × List (List UInt8)) => eqL [AV.sl n_6.1.length 1 (zf (ratG n_6.1) 0), AV.sl n_8.1.length 1 (ratG n_8.1)] [AV.sl x.1.length 1 (ratG x.1), AV.sl x.2.length 1 (ratG x.2)] ∧ x.1.length < 1152921504606846976) fun n_17 => .all (fun (r : Bool) => r = true ↔ n_17.1 = n_17.2) fun n_18 => .ex (fun (x : Tp) => (bif bif bif bif bif n_18 then decide (n_6.2 = n_8.2) else false then decide (n_10.1 = n_12.1) else false then decide (n_10.2 = n_12.2) else false then decide (n_14.1 = n_16.1) else false then decide (n_14.2 = n_16.2) else false) = true → eqL [AV.agg [AV.int .i64 n, AV.sl ops.length 4 (opG ops)]] [AV.agg [AV.int .i64 (Tp.n x), AV.sl (List.length (Tp.ops x)) 4 (opG (Tp.ops x))]] ∧ ji x) fun n_19 => .all (fun (x : Int) => (bif bif bif bif bif n_18 then decide (n_6.2 = n_8.2) else false then decide (n_10.1 = n_12.1) else false then decide (n_10.2 = n_12.2) else false then decide (n_14.1 = n_16.1) else false then decide (n_14.2 = n_16.2) else false) = true → x = zp n_19) fun n_20 => .ex (fun (x : Tp) => (bif bif bif bif bif n_18 then decide (n_6.2 = n_8.2) else false then decide (n_10.1 = n_12.1) else false then decide (n_10.2 = n_12.2) else false then decide (n_14.1 = n_16.1) else false then decide (n_14.2 = n_16.2) else false) = true → eqL [AV.agg [AV.int .i64 n, AV.sl ops.length 4 (opG ops)]] [AV.agg [AV.int .i64 (Tp.n x), AV.sl (List.length (Tp.ops x)) 4 (opG (Tp.ops x))]] ∧ List.length (Tp.ops x) < 1099511627776 ∧ ∀ (j : Nat), j < List.length (Tp.ops x) → List.length (TOp.rat (List.getD (Tp.ops x) j TOp.nil)) < 1099511627776) fun n_21 => .all (fun (x : Int) => (bif bif bif bif bif n_18 then decide (n_6.2 = n_8.2) else false then decide (n_10.1 = n_12.1) else false then decide (n_10.2 = n_12.2) else false then decide (n_14.1 = n_16.1) else false then decide (n_14.2 = n_16.2) else false) = true → x = zp n_21) fun n_22 => .leaf (.loop (Prod.fst (lps K3 0)) (Prod.snd (lps K3 0)) [(1, .sl inp.length 1 (ratG inp)), (3, .ptr 0 0), (7, .ptr 2 0), (8, .osl 1 1 0 (0 + inp.length)), (9, .osl 3 1 0 n_6.1.length), (21, .bool (bif bif bif bif bif bif n_18 then decide (n_6.2 = n_8.2) else false then decide (n_10.1 = n_12.1) else false then decide (n_10.2 = n_12.2) else false then decide (n_14.1 = n_16.1) else false then decide (n_14.2 = n_16.2) else false then decide (n_20 = n_22) else false)), (22, .int .i64 0), (113, .undef), (114, .undef), (115, .undef), (118, .undef), (119, .undef), (120, .undef)] [.box [.int .i64 n, .sl ops.length 4 (opG ops)], .arr (0 + inp.length) 1 (appG 0 (ze 1 []) (ratG inp)), .box [.int .i64 (Tp.n n_3), .sl (List.length (Tp.ops n_3)) 4 (opG (Tp.ops n_3))], .arr n_6.1.length 1 (ratG n_6.1)])))) (by kernel_rfl) ?_
 simp only [Tree.holds, zc]
 refine ⟨(⟨n, ops⟩, inp), ⟨by simp [za], h1, h2⟩, ⟨true, fun g => by cases g⟩, fun r hr => ⟨fun hr2 => ?_, fun hr2 => ?_⟩⟩
 ·exact RetR.scal hq rfl (by simp [resV])
 replace hr : Xe ⟨n, ops⟩ inp := hr hr2
 obtain ⟨m1, m2⟩ := XJ hr
 refine ⟨⟨n, ops⟩, ⟨by simp [za], m1.1⟩, ⟨(), trivial⟩, fun _ _ => ⟨⟨trivial, Nat.le_refl _, by have := m2.1; omega⟩, fun _ => ?_⟩⟩
 refine ⟨(⟨n, ops⟩, inp), ⟨by simp [za], h1, h2⟩, ⟨_, rfl⟩, ?_⟩
 intro a ha
 refine ⟨(⟨n, ops⟩, inp), ⟨by simp [za], m1, m2⟩, ⟨_, rfl⟩, ?_⟩
 intro b hb
 refine ⟨(⟨n, ops⟩, inp), ⟨by simp [za], h1, h2⟩, ⟨_, rfl⟩, ?_⟩
 intro c hc
 refine ⟨(⟨n, ops⟩, inp), ⟨by simp [za], m1, m2⟩, ⟨_, rfl⟩, ?_⟩
 intro d hd
 refine ⟨(⟨n, ops⟩, i), ⟨by simp [za], h1⟩, ⟨_, rfl⟩, ?_⟩
 intro k hk
 refine ⟨(⟨n, ops⟩, i), ⟨by simp [za], m1⟩, ⟨_, rfl⟩, ?_⟩
 intro m hm
 replace ha : a = trun ⟨n, ops⟩ inp := ha
 replace hb : b = trun ⟨n, ops⟩ inp := hb
 replace hc : c = zA ⟨n, ops⟩ inp := hc
 replace hd : d = zA ⟨n, ops⟩ inp := hd
 replace hk : k = degT ⟨n, ops⟩ i := hk
 replace hm : m = degT ⟨n, ops⟩ i := hm
 have hal : a.1.length ≤ ops.length := by rw [ha]; exact zay
 obtain rfl : b = a := hb.trans ha.symm
 obtain rfl : d = c := hd.trans hc.symm
 obtain rfl : m = k := hm.trans hk.symm
 refine ⟨(b.1, b.1), ⟨⟨⟨rfl, rfl, by rw [KL]; exact za _ _ _⟩, ⟨rfl, rfl, za _ _ _⟩, trivial⟩, by have := m1.1; simp only at this; show b.1.length < _; omega⟩, ⟨true, by simp⟩, ?_⟩
 intro e he
 obtain rfl : e = true := he.2 rfl
 refine ⟨⟨n, ops⟩, fun _ => ⟨by simp [za], h1⟩, ⟨_, fun _ => rfl⟩, ?_⟩
 intro u hu
 refine ⟨⟨n, ops⟩, fun _ => ⟨by simp [za], m1⟩, ⟨_, fun _ => rfl⟩, ?_⟩
 intro v hv
 replace hu := hu (by simp)
 replace hv := hv (by simp)
 rw [hu, hv]
 have hg0 : eqG b.1.length 1 (ratG b.1) (tgS fun j => b.1.getD j []) := fun _ _ _ _ => rfl
 generalize b.1.length = N at hal hg0 ⊢
 refine zb.loop (ι := {p : Nat × (Nat → List UInt8) // p.1 ≤ N}) (fun p => StLw inp N p.1.1) (fun p => HtLw n ops inp N p.1.2) (fun p => N - p.1.1) ⟨(0, fun j => b.1.getD j []), Nat.zero_le _⟩ 0 ?_ ?_ (by kernel_rfl)
 ·refine ⟨by simp [StLw, ratS, za], ?_, by kernel_rfl, Nat.zero_le _⟩
  simp [HtLw, opS, za]
  exact ⟨fun j o _ _ => by simp [appG], fun _ _ _ _ => by simp [ratG, tgS]⟩
 rintro ⟨⟨x, f⟩, hx⟩
 refine zb.run hmix YK [1, 3, 7, 8, 9, 21, 22, 113, 114, 115, 118, 119, 120] 400 (T := .ite (decide ((↑x : Int) < (↑N : Int))) (.side ((0 : Int) ≤ x ∧ (↑x : Int) < (↑N : Int)) (.side (inR .i64 ((↑x : Int) + (1 : Int))) (.leaf (.back 0 [(1, .sl inp.length 1 (ratG inp)), (3, .ptr 0 0), (7, .ptr 2 0), (8, .osl 1 1 0 inp.length), (9, .osl 3 1 0 N), (21, .bool true), (22, .int .i64 ((↑x : Int) + (1 : Int))), (113, .undef), (114, .undef), (115, .undef), (118, .undef), (119, .undef), (120, .undef)] [.box [.int .i64 n, .sl ops.length 4 (opG ops)], .arr inp.length 1 (ratG inp), .box [.int .i64 n, .sl ops.length 4 (opG ops)], Blk.arrS N fun (j : Nat) => if j = 0 + Int.toNat (↑x : Int) then Array.toList #[(55 : UInt8)] else f j])))) (.ex (fun (x : Tp × Tp) => true = true → eqL [AV.agg [AV.int .i64 n, AV.sl ops.length 4 (opG ops)], AV.agg [AV.int .i64 n, AV.sl ops.length 4 (opG ops)]] [AV.agg [AV.int .i64 (Tp.n x.1), AV.sl (List.length (Tp.ops x.1)) 4 (opG (Tp.ops x.1))], AV.agg [AV.int .i64 (Tp.n x.2), AV.sl (List.length (Tp.ops x.2)) 4 (opG (Tp.ops x.2))]] ∧ List.length (Tp.ops x.1) < 1152921504606846976) fun n_1 => .all (fun (x : Bool) => true = true → (x = true ↔ n_1.1 = n_1.2)) fun n_2 => .ex (fun (x : List (List UInt8) × List (List UInt8)) => (bif true then n_2 else false) = true → eqL [AV.sl inp.length 1 (ratG inp), AV.sl inp.length 1 (zf (ratG inp) 0)] [AV.sl x.1.length 1 (ratG x.1), AV.sl x.2.length 1 (ratG x.2)] ∧ x.1.length < 1152921504606846976) fun n_3 => .all (fun (x : Bool) => (bif true then n_2 else false) = true → (x = true ↔ n_3.1 = n_3.2)) fun n_4 => .leaf (.ret [.bool (bif bif true then n_2 else false then n_4 else false)] [.box [.int .i64 n, .sl ops.length 4 (opG ops)], .arr inp.length 1 (ratG inp), .box [.int .i64 n, .sl ops.length 4 (opG ops)], Blk.arrS N f]))) (by kernel_rfl) ?_
 simp only [Tree.holds, zc, inR, lo, hi, Int.toNat_natCast, Nat.zero_add]
 refine ⟨fun hlt => ?_, fun hge => ?_⟩
 ·have hlt : x < N := by have := of_decide_eq_true hlt; omega
  have := m1.1
  simp only at this
  refine ⟨by omega, fun _ => ⟨by omega, fun _ => ?_⟩⟩
  rw [if_pos trivial]
  exact ⟨⟨(x + 1, fun j => if j = x then [55] else f j), hlt⟩, by show N - (x + 1) < N - x; omega, by simp [StLw, ratS, za], by simp [HtLw, opS, za], by kernel_rfl, Nat.zero_le _⟩
 ·have l1 := m1.1
  have l2 := m2.1
  simp only at l1 l2
  refine ⟨(⟨n, ops⟩, ⟨n, ops⟩), fun _ => ⟨by simp [za], by show ops.length < _; omega⟩, ⟨true, fun _ => by simp⟩, ?_⟩
  intro e1 he1
  obtain rfl : e1 = true := (he1 trivial).2 rfl
  refine ⟨(inp, inp), fun _ => ⟨⟨⟨rfl, rfl, za _ _ _⟩, ⟨rfl, rfl, by rw [KL]; exact za _ _ _⟩, trivial⟩, by show inp.length < _; omega⟩, ⟨true, fun _ => by simp⟩, ?_⟩
  intro e2 he2
  obtain rfl : e2 = true := (he2 rfl).2 rfl
  exact RetR.scal hq rfl (by simp [resV])
end Go.Proofs.Try
end

/- From a reading of the arguments to their representation; from a contract to a call. -/
section
namespace Go.Sx
variable [Stat]
open Go.RowKit (Below)
def E0 : Nat → Prop := Own (fun _ => False) []
theorem zel (b : Nat) : ¬ E0 b := by
 rintro (h | ⟨e, he, _⟩)
 ·exact h
 ·simp at he
def Tw (P : Program) (W : World) (t : TypeId) (cs : List Value) : Prop := ∃ (H : Type) (enc : TypeId × Value → H) (base fuel : Nat) (d : DataW H) (ps : List MemPlace), DataW.trod enc P W base (fun _ => true) true fuel t cs = some (d, ps) ∧ ∀ n ∈ d.weights P t, n ≤ reachBytes
section
variable {P : Program} {W : World} {t e : TypeId} {cs : List Value}
theorem UC (ht : P.underlying t = some .string) (h : Tw P W t cs) : ∃ s : List UInt8, cs = [.string ⟨s.toArray⟩] ∧ s.length ≤ reachBytes := by
 obtain ⟨H, enc, base, fuel, d, ps, h, hw⟩ := h
 obtain ⟨s, rfl, hx, _⟩ := DataW.trod_string ht h
 cases hx
 exact ⟨s.data.toList, by simp, hw _ (by simp [DataW.weights])⟩
theorem Zj {k : IntKind} (ht : P.underlying t = some (.int k)) (h : Tw P W t cs) : ∃ n, cs = [.int k n] ∧ (Lit.int k n).wf = true := by
 obtain ⟨H, enc, base, fuel, d, ps, h, hw⟩ := h
 obtain ⟨n, rfl, hx, hwf⟩ := DataW.trod_int ht h
 exact ⟨n, rfl, hwf⟩
theorem QM {fs : Array Field} (ht : P.underlying t = some (.struct fs)) (h : Tw P W t cs) : cs.length = P.cellsOf t ∧ ∀ (i : Nat) (f : Field), fs[i]? = some f → Tw P W f.type ((cs.drop f.offset).take (P.cellsOf f.type)) := by
 obtain ⟨H, enc, base, fuel, d, ps, h, hw⟩ := h
 obtain ⟨xs, n, _, hx, hl, hlen, hf⟩ := DataW.trod_struct ht h
 cases hx
 refine ⟨hl, fun i f hfi => ?_⟩
 have hi := hf i f hfi
 have hlt : i < xs.length := by
  rw [hlen]; exact (Array.getElem?_eq_some_iff.1 hfi).1
 rw [List.getElem?_eq_getElem hlt] at hi
 refine ⟨H, enc, base, n, xs[i].1, xs[i].2, hi, fun m hm => hw m ?_⟩
 simp only [DataW.weights, ht]
 exact DataW.weights_mem_each (j := i) (t := f.type) (d := xs[i].1) (by simp [hfi]) (by simp [hlt]) m hm
theorem kg {H : Type} {d : DataW H} : ∀ {l : List (DataW H)}, d ∈ l → ∀ n ∈ d.weights P e, n ∈ DataW.weightsAll P e l
 | x :: l, hd, n, hn => by
  simp only [DataW.weightsAll, List.mem_append]
  rcases List.mem_cons.1 hd with rfl | hd
  ·exact .inl hn
  ·exact .inr (kg hd n hn)
theorem YW (ht : P.underlying t = some (.slice e)) (h : Tw P W t cs) : cs = [.slice none 0 0] ∨ ∃ (a : Addr) (len cap : Nat), cs = [.slice (some a) len cap] ∧ len ≤ cap ∧ cap * P.bytesOf e ≤ reachBytes ∧
  ∀ i, i < len → ∃ cs', cs'.length = P.cellsOf e ∧ (∀ o, o < P.cellsOf e → W.cell? ((a.add (i * P.cellsOf e)).add o) = cs'[o]?) ∧ Tw P W e cs' := by
 obtain ⟨H, enc, base, fuel, d, ps, h, hw⟩ := h
 rcases DataW.trod_slice ht h with ⟨rfl, _⟩ | ⟨a, len, cap, elems, rest, n, _, rfl, hx, hb, hl, hm, hlen, hel, hsp, _⟩
 ·exact .inl rfl
 ·right
  cases hx
  obtain ⟨hrl, _⟩ := hsp rfl
  simp only [DataW.weights, ht] at hw
  refine ⟨a, len, cap, rfl, hl, ?_, fun i hi => ?_⟩
  ·have := hw _ (List.mem_cons_self)
   simp only [List.length_map, hlen, hrl] at this
   rwa [show len + (cap - len) = cap by omega] at this
  ·have h1 := hel i hi
   have hlt : i < elems.length := by rw [hlen]; exact hi
   rw [List.getElem?_eq_getElem hlt, Option.bind_eq_some_iff] at h1
   obtain ⟨cs', h2, h3⟩ := h1
   obtain ⟨_, h4, h5⟩ := World.cells?_some h2
   refine ⟨cs', h4, h5, H, enc, base, n, elems[i].1, elems[i].2, h3, fun m hm2 => hw m ?_⟩
   simp only [List.mem_cons, List.mem_append]
   exact .inr (.inl (kg (d := elems[i].1) (List.mem_map.2 ⟨elems[i], List.getElem_mem hlt, rfl⟩) m hm2))
theorem Qi {α : Type} (z : α) (cell : α → Nat → AV) (good : α → Prop) {sz : Nat} (ht : P.underlying t = some (.slice e)) (hsz : P.cellsOf e = sz) (hpos : 0 < sz)
  (hel : ∀ cs', Tw P W e cs' → ∃ x : α, good x ∧ ∀ o, o < sz → ∃ c, cs'[o]? = some c ∧ c.oneCell' = true ∧ Rep E0 W (cell x o) [] c) (h : Tw P W t cs) :
  ∃ (l : List α) (v : Value), cs = [v] ∧ (∀ x ∈ l, good x) ∧ l.length * P.bytesOf e ≤ reachBytes ∧ v.oneCell' = true ∧ Rep E0 W (.sl l.length sz fun j => cell (l.getD j z)) [] v := by
 rcases YW ht h with rfl | ⟨a, len, cap, rfl, hl, hw, hx⟩
 ·refine ⟨[], _, rfl, by simp, by simp, rfl, ?_⟩
  simp only [Rep]
  exact ⟨none, 0, rfl, Nat.le_refl _, .inl rfl⟩
 ·rw [hsz] at hx
  have hx2 : ∀ i, ∃ x : α, i < len → good x ∧ ∀ o, o < sz → ∃ c, W.cell? ((a.add (i * sz)).add o) = some c ∧ c.oneCell' = true ∧ Rep E0 W (cell x o) [] c := fun i => by
   by_cases hi : i < len
   ·obtain ⟨cs', h1, h2, h3⟩ := hx i hi
    obtain ⟨x, hg, hc⟩ := hel cs' h3
    exact ⟨x, fun _ => ⟨hg, fun o ho => by
     obtain ⟨c, g1, g2, g3⟩ := hc o ho
     exact ⟨c, by rw [h2 o ho, g1], g2, g3⟩⟩⟩
   ·exact ⟨z, fun h => absurd h hi⟩
  obtain ⟨f, hf⟩ := Classical.axiomOfChoice hx2
  have hgd : ∀ j, j < len → ((List.range len).map f).getD j z = f j := fun j hj => by simp [List.getD, hj]
  refine ⟨(List.range len).map f, _, rfl, fun x hxm => ?_, ?_, rfl, ?_⟩
  ·obtain ⟨i, hi, rfl⟩ := List.mem_map.1 hxm
   exact (hf i (List.mem_range.1 hi)).1
  ·simp only [List.length_map, List.length_range]
   exact Nat.le_trans (Nat.mul_le_mul_right _ hl) hw
  ·simp only [Rep, List.length_map, List.length_range]
   refine ⟨some a, cap, rfl, hl, ?_⟩
   rcases Nat.eq_zero_or_pos len with h0 | h0
   ·exact .inl h0
   ·right
    have hspot : a.spot = none := by
     obtain ⟨c, g1, _⟩ := (hf 0 h0).2 0 hpos
     have := World.cell?_spot g1
     simpa [Addr.add] using this
    refine ⟨a, rfl, hspot, fun j o hj ho => ⟨zel _, ?_⟩⟩
    obtain ⟨c, g1, g2, g3⟩ := (hf j hj).2 o ho
    refine ⟨c, ?_, g2, by rw [hgd j hj]; exact g3⟩
    rw [← g1]
    obtain ⟨b, off, spot⟩ := a
    simp only at hspot
    subst hspot
    congr 1
    simp only [Addr.add]
    split <;> split <;> simp_all <;> omega
theorem XW {g : Nat} {fn : Func} {c : Code} (hf : P.funcs[g]? = some fn) (hb : fn.body = some c) (hn : (fn.name == "runtime.NumGoroutine") = false) {ctr : Ctr} (hok : zd P g ctr) {args : List AV} {vals : List Value}
  (hspec : (ctr.spec args []).holds fun r => r = (.bool true, [])) (hr : RepL E0 W args [] vals) (hst : ve E0 W) : Calls P g vals.toArray W fun e W' => e = .returned (.bool true) ∧ Below W.heap.size W W' := by
 have hn' : ¬ fn.name = "runtime.NumGoroutine" := by simpa using hn
 have hg : Good (fun _ => False) W [] := ⟨fun b h => h.elim, fun i e ad he => by simp at he, hst⟩
 have hh : HRep (Own (fun _ => False) []) W [] [] := ⟨rfl, fun i j e f a b he => by simp at he, fun i e a he => by simp at he, fun i e b he => by simp at he⟩
 rcases hok args [] _ hspec (fun _ => rfl) (fun _ => False) W [] vals hg hh hr with ⟨_, h⟩ | ⟨v, w', h, _⟩
 ·refine h.mono ?_
  rintro e W' ⟨v, rfl, r, hs, σ', hq, h1, _, _, _, _, hx⟩
  cases hq
  simp only [Rep] at h1
  subst h1
  exact ⟨rfl, hx.os, hx.tape, hx.output, hx.size, fun k hk => hx.keep k hk fun ⟨e, he, _⟩ => by simp at he⟩
 ·simp [callFunc, hf, hn', hb] at h
end
end Go.Sx
end

/- Recursive data as arguments; package-level maps that read as they are laid. -/
section
namespace Go.Sx
variable [Stat]
section
variable {P : Program} {W : World} {t e : TypeId} {cs : List Value}
end
section
open Go.WideElems Go.ChangeMaps
variable {H : Type} {enc : TypeId × Value → H} {P : Program} {W : World} {base : Nat} {sp : Nat → Bool} {held : Bool}
end
end Go.Sx
end

/- What rows hand to laws about tapes: arguments as data. -/
section
set_option maxRecDepth 100000
namespace Go.Proofs.Ytbnoamkgjjbfmaa
open Go Go.Sx Go.Nov Go.Proofs.Try Go.ChangeShapes Go.WideShapes Go.ChangeAt Go.RowKit
theorem QN : Try.prog.cellsOf 33 = 1 := by kernel_rfl
theorem yI : Try.prog.cellsOf 3 = 1 := by kernel_rfl
theorem UN : Try.prog.cellsOf 5 = 1 := by kernel_rfl
theorem Wv : Try.prog.cellsOf 59 = 4 := by kernel_rfl
theorem UP : Try.prog.cellsOf 22 = 1 := by kernel_rfl
theorem Kt : Try.prog.cellsOf 24 = 2 := by kernel_rfl
theorem za3 {W : World} {cs : List Value} (h : Tw Try.prog W 59 cs) : ∃ x : TOp, (Jq x ∧ x.rat.length ≤ reachBytes) ∧ cs = [.int .u8 x.kind, .int .i64 x.a, .int .i64 x.b, .string ⟨x.rat.toArray⟩] := by
 obtain ⟨hl, hf⟩ := QM Try.underlying59 h
 rw [Wv] at hl
 match cs, hl with
 | [a, b, c, d], _ =>
  have h0 : Tw Try.prog W 5 (([a, b, c, d].drop 0).take (Try.prog.cellsOf 5)) := hf 0 _ rfl
  rw [UN] at h0
  replace h0 : Tw Try.prog W 5 [a] := h0
  have h1 : Tw Try.prog W 3 (([a, b, c, d].drop 1).take (Try.prog.cellsOf 3)) := hf 1 _ rfl
  rw [yI] at h1
  replace h1 : Tw Try.prog W 3 [b] := h1
  have h2 : Tw Try.prog W 3 (([a, b, c, d].drop 2).take (Try.prog.cellsOf 3)) := hf 2 _ rfl
  rw [yI] at h2
  replace h2 : Tw Try.prog W 3 [c] := h2
  have h3 : Tw Try.prog W 33 (([a, b, c, d].drop 3).take (Try.prog.cellsOf 33)) := hf 3 _ rfl
  rw [QN] at h3
  replace h3 : Tw Try.prog W 33 [d] := h3
  obtain ⟨k, e0, w0⟩ := Zj Try.underlying5 h0
  obtain ⟨n, e1, w1⟩ := Zj Try.underlying3 h1
  obtain ⟨m, e2, w2⟩ := Zj Try.underlying3 h2
  obtain ⟨u, e3, w3⟩ := UC Try.underlying33 h3
  cases e0; cases e1; cases e2; cases e3
  refine ⟨⟨k, n, m, u⟩, ⟨?_, w3⟩, rfl⟩
  have := reachBytes_lt
  show u.length < _
  omega
theorem za5 {W : World} {cs : List Value} (h : Tw Try.prog W 24 cs) : ∃ t : Tp, ji t ∧ Rep E0 W t.av [] (.agg cs.toArray) := by
 obtain ⟨hl, hf⟩ := QM Try.underlying24 h
 rw [Kt] at hl
 match cs, hl with
 | [a, b], _ =>
  have h0 : Tw Try.prog W 3 (([a, b].drop 0).take (Try.prog.cellsOf 3)) := hf 0 _ rfl
  rw [yI] at h0
  replace h0 : Tw Try.prog W 3 [a] := h0
  have h1 : Tw Try.prog W 22 (([a, b].drop 1).take (Try.prog.cellsOf 22)) := hf 1 _ rfl
  rw [UP] at h1
  replace h1 : Tw Try.prog W 22 [b] := h1
  obtain ⟨n, e0, w0⟩ := Zj Try.underlying3 h0
  obtain ⟨l, v, e1, gl, wl, _, rl⟩ := Qi TOp.nil TOp.cell (fun x => Jq x ∧ x.rat.length ≤ reachBytes) Try.underlying22 Wv (by decide) (fun cs' h' => by
   obtain ⟨x, hx, rfl⟩ := za3 h'
   refine ⟨x, hx, fun o ho => ?_⟩
   match o, ho with
   | 0, _ => exact ⟨_, rfl, rfl, by simp [TOp.cell, Rep]⟩
   | 1, _ => exact ⟨_, rfl, rfl, by simp [TOp.cell, Rep]⟩
   | 2, _ => exact ⟨_, rfl, rfl, by simp [TOp.cell, Rep]⟩
   | 3, _ => exact ⟨_, rfl, rfl, by simp [TOp.cell, Rep]⟩) h1
  cases e0; cases e1
  have b1 : Try.prog.bytesOf 59 = 40 := by kernel_rfl
  rw [b1] at wl
  have hr := reachBytes_lt
  refine ⟨⟨n, l⟩, ⟨by show l.length < _; omega, fun j hj => (gl (l.getD j TOp.nil) (by simp only at hj; simp [List.getD, hj])).1⟩, ?_⟩
  ·simp only [RepL, Rep, Tp.av]
   exact ⟨_, rfl, _, _, rfl, rfl, _, _, rfl, rl, rfl⟩
theorem Y9 {W : World} {cs : List Value} (h : Tw Try.prog W 25 cs) : ∃ (v : Value) (l : List (List UInt8)), cs = [v] ∧ vQ l ∧ Rep E0 W (ratS l) [] v := by
 obtain ⟨l, v, e1, gl, wl, _, rl⟩ := Qi [] (fun (x : List UInt8) _ => AV.str x) (fun x => x.length ≤ reachBytes) Try.underlying25 QN (by decide) (fun cs' h' => by
   obtain ⟨x, rfl, hx⟩ := UC Try.underlying33 h'
   refine ⟨x, hx, fun o ho => ?_⟩
   match o, ho with
   | 0, _ => exact ⟨_, rfl, rfl, by simp [Rep]⟩) h
 have b1 : Try.prog.bytesOf 33 = 16 := by kernel_rfl
 rw [b1] at wl
 have hr := reachBytes_lt
 exact ⟨v, l, e1, ⟨by omega, fun j hj => by have := gl (l.getD j []) (by simp [List.getD, hj]); omega⟩, rl⟩
theorem zbc {W : World} {cs : List Value} (h : Tw Try.prog W 3 cs) : ∃ n : Int, cs = [.int .i64 n] ∧ inR .i64 n ∧ Rep E0 W (.int .i64 n) [] (.int .i64 n) := by
 obtain ⟨n, rfl, hn⟩ := Zj Try.underlying3 h
 refine ⟨n, rfl, ?_, by simp [Rep]⟩
 simp only [Lit.wf, Bool.and_eq_true, decide_eq_true_eq] at hn
 exact hn
end Go.Proofs.Ytbnoamkgjjbfmaa
end

/- For every input the law returns true, and each argument reads behind the call as it read before. -/
section
set_option maxRecDepth 100000
namespace Go.Proofs.Ytbnoamkgjjbfmaa
open Go Go.Sx Go.Nov Go.Proofs.Try Go.ChangeShapes Go.WideShapes Go.ChangeAt Go.RowKit
theorem walk {W : World} {v0 v1 v2 : List Value} (h0 : Tw Try.prog W 24 v0) (h1 : Tw Try.prog W 25 v1) (h2 : Tw Try.prog W 3 v2) :
  ∃ s1 : Value, v1 = [s1] ∧ ∃ s2 : Value, v2 = [s2] ∧ Calls Try.prog 3 #[.agg v0.toArray, s1, s2] W fun e W' => e = .returned (.bool true) ∧ Below W.heap.size W W' := by
 obtain ⟨t, tg, tr⟩ := za5 h0
 obtain ⟨s1, inp, rfl, inpg, inpr⟩ := Y9 h1
 obtain ⟨i, rfl, ig, ir⟩ := zbc h2
 refine ⟨_, rfl, ?_⟩
 refine ⟨_, rfl, ?_⟩
 refine XW (fn := Try.f3) (c := Try.f3.body.getD .skip) rfl rfl rfl zb3 (args := [t.av, ratS inp, .int .i64 i]) (vals := [.agg v0.toArray, s1, .int .i64 i]) ?_ ?_ XS
 ·refine ⟨(t, inp, i), ⟨?_, ⟨tg, inpg, ig⟩⟩, ⟨true, rfl⟩, ?_⟩
  ·simp [eqL, eqA, eqA0, eqL0, Tp.av, opS, ratS, za]
  ·rintro _ rfl
   rfl
 ·exact ⟨_, _, rfl, tr, ⟨_, _, rfl, inpr, ⟨_, _, rfl, ir, rfl⟩⟩⟩
theorem own : ownKnob Try.prog.godebug = none := by kernel_rfl
theorem laid : laidOutB Try.prog = true := by kernel_rfl
theorem lifted (os : Os) (started : os.Started) (H : Type) (enc : TypeId × Value → H) :
  ReturnsInHanded {} Try.checked os 3 .any (Rows.bumpRunsSpec.pre6 enc Try.prog Try.f3 Rows.bumpRunsRow.domain false) (Rows.bumpRunsSpec.post enc Try.prog Try.f3 false true false false) := by
 refine returnsInHanded_of_change_sized (C := Try.checked) own started (by kernel_rfl) Try.func3
  (ChangeSpec.witness6 (enc := enc) (C := Try.checked) false ⟨#[], #[.agg #[.int .i64 0, .slice none 0 0], .slice none 0 0, .int .i64 0], []⟩ 8 (by kernel_rfl) (by kernel_rfl) (by kernel_rfl) (by kernel_rfl)) ?_
 intro W base args ds gs before hval0 hW hcnd hwt _
 have hval : ∀ (j : Nat) t v, Try.f3.params[j]? = some t → args[j]? = some v → Value.okWide Try.prog W .any base t v := hval0
 have hW' := hW
 obtain ⟨p, q, hA0, hV, rfl, hfz, hnd⟩ := hW
 have hA : DataW.TrodAll enc Try.prog W 0 (fun _ => true) true Try.f3.params.toList args.toList ds p := hA0
 rw [Try.params3] at hA hval
 obtain ⟨v0, vs0, d0, ds0, p0, q0, hargs, rfl, rfl, h0, r0⟩ := trodAll_cons hA
 obtain ⟨v1, vs1, d1, ds1, p1, q1, rfl, rfl, rfl, h1, r1⟩ := trodAll_cons r0
 obtain ⟨v2, vs2, d2, ds2, p2, q2, rfl, rfl, rfl, h2, r2⟩ := trodAll_cons r1
 obtain ⟨rfl, rfl, rfl⟩ := trodAll_nil r2
 obtain rfl : args = #[v0, v1, v2] := by cases args; simp_all
 obtain ⟨rfl, rfl⟩ := trodVars_none hV
 clear hA0 hval0
 simp only [List.append_nil] at hW' hwt
 have hw : ∀ (j : Nat) (t : TypeId) (d : DataW H), [24, 25, 3][j]? = some t → [d0, d1, d2][j]? = some d → ∀ n ∈ d.weights Try.prog t, n ≤ reachBytes := fun j t d ht hd n hn => by
  have := List.all_eq_true.1 hwt n (DataW.weights_mem_each (j := j) (t := t) (d := d) (by exact ht) (by exact hd) n hn)
  simpa using this
 obtain ⟨c0, rfl, _⟩ := okWide_struct Try.underlying24 (hval 0 24 v0 rfl rfl)
 obtain ⟨a1, l1, k1, rfl⟩ := okWide_slice Try.underlying25 (hval 1 25 v1 rfl rfl)
 obtain ⟨c2, rfl⟩ := okWide_int Try.underlying3 (hval 2 3 v2 rfl rfl)
 have t0 : Tw Try.prog W 24 c0.toList := by
  obtain ⟨fuel, hf⟩ := h0
  exact ⟨H, enc, 0, fuel, d0, p0, by simpa [Value.cells] using hf, hw 0 _ d0 rfl rfl⟩
 have t1 : Tw Try.prog W 25 [.slice a1 l1 k1] := by
  obtain ⟨fuel, hf⟩ := h1
  exact ⟨H, enc, 0, fuel, d1, p1, by simpa [Value.cells] using hf, hw 1 _ d1 rfl rfl⟩
 have t2 : Tw Try.prog W 3 [.int .i64 c2] := by
  obtain ⟨fuel, hf⟩ := h2
  exact ⟨H, enc, 0, fuel, d2, p2, by simpa [Value.cells] using hf, hw 2 _ d2 rfl rfl⟩
 have hlt : ∀ x ∈ p0 ++ (p1 ++ p2), x.block < W.heap.size := fun x hx => by simpa using hW'.lt x (by simpa using hx)
 obtain ⟨s1, e1, s2, e2, hcall⟩ := walk t0 t1 t2
 cases e1
 cases e2
 simp only [Array.toArray_toList] at hcall
 refine hcall.mono fun e W' ⟨he, hb⟩ => ?_
 subst he
 refine ⟨_, rfl, _, _, _, [], p0 ++ (p1 ++ p2), [], hW', trodAll_mk1 (shut_bool Try.underlying4 true), ?_, rfl, hb.frame _, fun h => by cases h⟩
 exact trodAll_mk3 (Below.trod laid (by kernel_rfl) (of_decide_eq_true (by kernel_rfl)) h0 hb fun x hx => hlt x (by simp [hx])) (Below.trod laid (by kernel_rfl) (of_decide_eq_true (by kernel_rfl)) h1 hb fun x hx => hlt x (by simp [hx])) (Below.trod laid (by kernel_rfl) (of_decide_eq_true (by kernel_rfl)) h2 hb fun x hx => hlt x (by simp [hx]))
theorem over : Rows.bumpRunsRow.holds Try.pinned (OpenSpec.ofChange Rows.bumpRunsSpec) :=
 OpenClaim.holds_of_wide 3 Try.f3 rfl rfl rfl rfl rfl rfl rfl ⟨rfl, rfl, rfl, rfl, rfl⟩ rfl rfl rfl rfl rfl (by kernel_rfl) Try.func3 (by kernel_rfl)
  (of_decide_eq_true (by kernel_rfl)) (by unfold Func.isWrapper; first | (rw [if_pos (by decide +kernel)]; kernel_rfl) | (rw [if_neg (by decide +kernel)]; exact ⟨rfl, rfl⟩))
  (fun os started H enc _ => lifted os started H enc)
theorem bumpRuns_holds : Rows.BumpRunsSaid := over
end Go.Proofs.Ytbnoamkgjjbfmaa
end
