/- Part 6 of the proof. -/
import Derived.Test.YtbnoamkgjjbfmaaGreatSxe
set_option linter.unusedVariables false
set_option linter.unusedSimpArgs false
set_option linter.unusedSectionVars false

/- Tapes: runs with their checks, values, degrees. -/
section
set_option maxRecDepth 100000
open Go Go.Sx Go.Proofs Go.Nov
namespace Go.Proofs.Tryz
attribute [local simp] eqKV eqA eqA0 eqH eqB eqL eqL0
noncomputable def K46 : List Go.Sx.Item := [.code (Tryz.f46.body.getD .skip)]
def Uu : Ctr := ctrP true (fun p : Tp × List (List UInt8) => [p.1.av, ratS p.2]) (fun p => qe p.1 ∧ qt p.2) (fun p r => r = trun p.1 p.2) (fun _ (r : List (List UInt8) × Int) => (.tup [.osl 0 1 0 r.1.length, .int .i64 r.2], [.arr r.1.length 1 (ratG r.1)]))
def SbRn (inp : List (List UInt8)) (i : Nat) : KV := [(1, ratS inp), (2, .ptr 0 0), (20, ratS inp), (21, .int .i64 (inp.length : Int)), (22, .int .i64 (i : Int))]
def HbRn (n : Int) (ops : List TOp) : Heap := [.box [.int .i64 n, opS ops]]
noncomputable def GT3 : Nat → Option Ctr := fun f => if f = 73 then some (Xj) else if f = 30 then some (km) else if f = 38 then some (Vc) else none
theorem zat : ∀ g c, GT3 g = some c → zg Tryz.prog g c := okIf Yx (okIf wK (okIf XE (zp)))
theorem zcu : zg Tryz.prog 46 Uu := by
 refine Zc (fn := Tryz.f46) (c := Tryz.f46.body.getD .skip) rfl rfl rfl fun p hp O w0 Q hq => ?_
 obtain ⟨⟨n, ops⟩, inp⟩ := p
 obtain ⟨hs, hr⟩ := hp
 replace hq := hq _ rfl
 simp only at hs hr hq
 refine zd.run hmix zat [1, 2, 20, 21, 22] 400 (T := .ex (fun (x : Tp) => eqL [AV.agg [AV.int .i64 n, AV.sl ops.length 4 (opG ops)]] [AV.agg [AV.int .i64 (Tp.n x), AV.sl (List.length (Tp.ops x)) 4 (opG (Tp.ops x))]] ∧ qe x) fun n_1 => .all (fun (r : Int) => r = zh n_1) fun n_2 => .ite (!decide (n_2 = 0)) (.leaf (.ret [.nils, .int .i64 n_2] [.box [.int .i64 n, .sl ops.length 4 (opG ops)]])) (.ite (!decide ((↑inp.length : Int) = n)) (.leaf (.ret [.nils, .int .i64 2] [.box [.int .i64 n, .sl ops.length 4 (opG ops)]])) (.leaf (.loop (Prod.fst (lps K46 0)) (Prod.snd (lps K46 0)) [(1, .sl inp.length 1 (ratG inp)), (2, .ptr 0 0), (20, .sl inp.length 1 (ratG inp)), (21, .int .i64 inp.length), (22, .int .i64 0)] [.box [.int .i64 n, .sl ops.length 4 (opG ops)]])))) (by kernel_rfl) ?_
 simp only [Tree.holds, ze]
 have bad : ∀ (e : Int) (h : Heap), preT ⟨n, ops⟩ inp = e → e ≠ 0 → RetR Uu 0 (upQ Q) [.nils, .int .i64 e] h := by
  rintro e h rfl hne
  have e : trun ⟨n, ops⟩ inp = ([], preT ⟨n, ops⟩ inp) := by unfold trun; rw [if_pos hne]
  rw [e] at hq
  exact Zh _ h hq
 refine ⟨⟨n, ops⟩, ⟨⟨⟨⟨rfl, rfl⟩, ⟨rfl, rfl, zc _ _ _⟩, trivial⟩, trivial⟩, hs⟩, ⟨_, rfl⟩, ?_⟩
 rintro _ rfl
 refine ⟨fun h => ?_, fun h => ⟨fun h2 => ?_, fun h2 => ?_⟩⟩
 ·have h : zh ⟨n, ops⟩ ≠ 0 := by simpa using h
  exact bad _ _ (by unfold preT; rw [if_pos h]) h
 ·have h : zh ⟨n, ops⟩ = 0 := by simpa using h
  have h2 : (inp.length : Int) ≠ n := by simpa using h2
  exact bad _ _ (by unfold preT; rw [if_neg (by simp [h]), if_pos h2]) (by decide)
 have h : zh ⟨n, ops⟩ = 0 := by simpa using h
 have h2 : (inp.length : Int) = n := by simpa using h2
 have hpre : preT ⟨n, ops⟩ inp = vP inp := by unfold preT; rw [if_neg (by simp [h]), if_neg (by simp [h2])]
 obtain ⟨hr1, hr2⟩ := hr
 refine zd.loop (ι := {i : Nat // i ≤ inp.length ∧ vP (inp.drop i) = vP inp}) (fun i => SbRn inp i.1) (fun _ => HbRn n ops) (fun i => inp.length - i.1) ⟨0, Nat.zero_le _, rfl⟩ 0 ?_ ?_ (by kernel_rfl)
 ·exact ⟨by simp [SbRn, ratS, zc], by simp [HbRn, opS, zc], by kernel_rfl, Nat.zero_le _⟩
 rintro ⟨i, hil, hie⟩
 refine zd.run hmix zat [1, 2, 20, 21, 22] 400 (T := .ite (decide ((↑i : Int) < inp.length)) (.side ((0 : Int) ≤ i ∧ (↑i : Int) < inp.length) (.ex (fun (x : List UInt8) => eqL [AV.str (List.getD inp (Int.toNat (↑i : Int)) [])] [AV.str x] ∧ x.length < 4611686018427387904) fun n_1 => .all (fun (r : Int) => r = errR n_1) fun n_2 => .ite (!decide (n_2 = 0)) (.leaf (.ret [.nils, .int .i64 n_2] [.box [.int .i64 n, .sl ops.length 4 (opG ops)]])) (.side (inR .i64 ((↑i : Int) + (1 : Int))) (.leaf (.back 0 [(1, .sl inp.length 1 (ratG inp)), (2, .ptr 0 0), (20, .sl inp.length 1 (ratG inp)), (21, .int .i64 inp.length), (22, .int .i64 ((↑i : Int) + (1 : Int)))] [.box [.int .i64 n, .sl ops.length 4 (opG ops)]]))))) (.ex (fun (x : Tp × List (List UInt8)) => eqL [AV.agg [AV.int .i64 n, AV.sl ops.length 4 (opG ops)], AV.sl inp.length 1 (ratG inp)] [AV.agg [AV.int .i64 (Tp.n x.1), AV.sl (List.length (Tp.ops x.1)) 4 (opG (Tp.ops x.1))], AV.sl x.2.length 1 (ratG x.2)] ∧ zh x.1 = 0 ∧ (↑x.2.length : Int) = Tp.n x.1 ∧ allQ x.2) fun n_1 => .all (fun (r : List (List UInt8) × Int) => r = runF n_1.2 (Tp.ops n_1.1) []) fun n_2 => .leaf (.ret [.osl 1 1 0 n_2.1.length, .int .i64 n_2.2] [.box [.int .i64 n, .sl ops.length 4 (opG ops)], .arr n_2.1.length 1 (ratG n_2.1)]))) (by kernel_rfl) ?_
 simp only [Tree.holds, ze, inR, lo, hi, Int.toNat_natCast]
 refine ⟨fun hlt => ?_, fun hge => ?_⟩
 ·have hlt : i < inp.length := by have := of_decide_eq_true hlt; omega
  rw [Zy hlt] at hie
  have hl := hr2 i hlt
  refine ⟨by omega, fun _ => ⟨inp.getD i [], ⟨⟨rfl, trivial⟩, by omega⟩, ⟨_, rfl⟩, ?_⟩⟩
  rintro _ rfl
  refine ⟨fun h3 => ?_, fun h3 => ⟨by omega, fun _ => ?_⟩⟩
  ·have h3 : errR (inp.getD i []) ≠ 0 := by simpa using h3
   rw [if_pos h3] at hie
   exact bad _ _ (by rw [hpre, hie]) h3
  ·have h3 : errR (inp.getD i []) = 0 := by simpa using h3
   rw [if_neg (fun g => g h3)] at hie
   rw [if_pos trivial]
   exact ⟨⟨i + 1, hlt, hie⟩, by show inp.length - (i + 1) < inp.length - i; omega, by simp [SbRn, ratS, zc], by simp [HbRn, opS, zc], by kernel_rfl, Nat.zero_le _⟩
 ·have hge : i = inp.length := by have := of_decide_eq_false hge; omega
  subst hge
  rw [List.drop_length] at hie
  have hq0 : allQ inp := JH.1 hie.symm
  refine ⟨(⟨n, ops⟩, inp), ⟨⟨⟨⟨rfl, rfl⟩, ⟨rfl, rfl, zc _ _ _⟩, trivial⟩, ⟨rfl, rfl, zc _ _ _⟩, trivial⟩, h, h2, hq0⟩, ⟨_, rfl⟩, ?_⟩
  rintro _ rfl
  have e : trun ⟨n, ops⟩ inp = runF inp ops [] := by unfold trun; rw [if_neg]; rw [hpre, ← hie]; simp [vP]
  rw [e] at hq
  refine RetR.outs [1] rfl rfl (.inl hq) (fun _ => ⟨?_, ?_⟩) ?_ ?_ rfl
  ·simp [resV, new2, new1, new0, zC, zX]
  ·simp only [List.mem_cons, List.not_mem_nil, or_false, forall_eq]
   exact Zb (zc _ _ _)
  ·simp [resV, exp2, exp1, exp0, zC, ren0, eqA2, eqL1]
  ·exact ⟨⟨rfl, rfl, zc _ _ _⟩, trivial⟩
theorem W0 {t : Tp} {inp : List (List UInt8)} (h : (trun t inp).2 = 0) : zh t = 0 ∧ allQ (trun t inp).1 ∧ (trun t inp).1.length = t.ops.length := by
 unfold trun at h ⊢
 by_cases g : preT t inp = 0
 ·rw [if_neg (fun k => k g)] at h ⊢
  obtain ⟨p1, p2, p3⟩ := Jp.1 g
  obtain ⟨c1, c2, c3, c4, c5⟩ := qw.1 p1
  obtain ⟨a1, a2, a3⟩ := xJ (n := t.n) p3 p2 t.ops [] _ (fun y hy => absurd hy (by simp)) (jk c5 t.ops 0 (List.drop_zero)) (show runF inp t.ops [] = ((runF inp t.ops []).1, 0) by rw [← h])
  exact ⟨p1, a1, by simpa using a3⟩
 ·rw [if_pos g] at h; exact absurd h g
noncomputable def KP : Ctr := inlC Tryz.prog noG 100 Tryz.f37
theorem WZ : zg Tryz.prog 37 KP := wP hmix z3 rfl rfl
def Xm : Ctr := ctrP true (fun p : Tp × List (List UInt8) => [p.1.av, ratS p.2]) (fun p => qe p.1 ∧ qt p.2) (fun p r => r = zx p.1 p.2) (fun _ (r : List UInt8 × Int) => (.tup [.str r.1, .int .i64 r.2], []))
noncomputable def GT4 : Nat → Option Ctr := fun f => if f = 46 then some (Uu) else if f = 37 then some (KP) else none
theorem zep : ∀ g c, GT4 g = some c → zg Tryz.prog g c := okIf zcu (okIf WZ (zp))
theorem Wo : zg Tryz.prog 28 Xm := by
 refine zi (fn := Tryz.f28) (c := Tryz.f28.body.getD .skip) rfl rfl rfl fun p hp O w0 Q hq => ?_
 obtain ⟨⟨n, ops⟩, inp⟩ := p
 replace hq := hq _ rfl
 simp only at hp hq
 refine zd.run hmix zep [] 400 (T := .ex (fun (x : Tp × List (List UInt8)) => eqL [AV.agg [AV.int .i64 n, AV.sl ops.length 4 (opG ops)], AV.sl inp.length 1 (ratG inp)] [AV.agg [AV.int .i64 (Tp.n x.1), AV.sl (List.length (Tp.ops x.1)) 4 (opG (Tp.ops x.1))], AV.sl x.2.length 1 (ratG x.2)] ∧ qe x.1 ∧ qt x.2) fun n_1 => .all (fun (r : List (List UInt8) × Int) => r = trun n_1.1 n_1.2) fun n_2 => .ite (!decide (n_2.2 = 0)) (.leaf (.ret [.str (Array.toList #[]), .int .i64 n_2.2] [.box [.int .i64 n, .sl ops.length 4 (opG ops)], .arr n_2.1.length 1 (ratG n_2.1)])) (.side (inR .i64 ((↑n_2.1.length : Int) - (1 : Int))) (.side ((0 : Int) ≤ n_2.1.length - (1 : Int) ∧ (↑n_2.1.length : Int) - (1 : Int) < n_2.1.length) (.leaf (.ret [.str (List.getD n_2.1 (0 + Int.toNat ((↑n_2.1.length : Int) - (1 : Int))) []), .int .i64 0] [.box [.int .i64 n, .sl ops.length 4 (opG ops)], .arr n_2.1.length 1 (ratG n_2.1)]))))) (by kernel_rfl) ?_
 simp only [Tree.holds, ze]
 refine ⟨(⟨n, ops⟩, inp), ⟨⟨⟨⟨rfl, rfl⟩, ⟨rfl, rfl, zc _ _ _⟩, trivial⟩, ⟨rfl, rfl, zc _ _ _⟩, trivial⟩, hp.1, hp.2⟩, ⟨_, rfl⟩, ?_⟩
 intro r hr
 replace hr : r = trun ⟨n, ops⟩ inp := hr
 unfold zx qQ at hq
 rw [← hr] at hq
 simp only [inR, lo, hi]
 refine ⟨fun h => ?_, fun h => ?_⟩
 ·have h : r.2 ≠ 0 := by simpa using h
  rw [if_pos h] at hq
  exact RetR.scal hq rfl (by simp [resV])
 ·have h : r.2 = 0 := by simpa using h
  rw [if_neg (fun g => g h)] at hq
  obtain ⟨c, _, l⟩ := W0 (hr ▸ h)
  rw [← hr] at l
  obtain ⟨c1, _, _, c4, _⟩ := qw.1 c
  refine ⟨by omega, fun _ => ⟨by omega, fun _ => ?_⟩⟩
  have e : 0 + ((r.1.length : Int) - 1).toNat = r.1.length - 1 := by omega
  rw [e]
  exact RetR.scal hq rfl (by simp [resV])
end Go.Proofs.Tryz
end

/- The reference's integers: what its sums and products of digits mean. -/
section
namespace Go.Nov
theorem zfr {l : List Nat} (h : ∀ p, p < l.length → l.getD p 0 < 10) : Ten.dig l := by
 intro d hd
 obtain ⟨i, hi, rfl⟩ := List.getElem_of_mem hd
 have := h i hi
 simpa [List.getD, hi] using this
theorem zbi {l : List Nat} {n : Nat} (hn : l.length = n + 1) (h : ∀ p, p < n → l.getD p 0 < 10) (hv : Ten.val l < 10 ^ (n + 1)) : Ten.dig l := by
 refine zfr fun p hp => ?_
 rcases Nat.lt_or_ge p n with h1 | h1
 ·exact h p h1
 ·have : p = n := by omega
  subst this
  have e := Ten.zm l p
  rw [List.take_of_length_le (by omega)] at e
  rw [Nat.pow_succ] at hv
  rcases Nat.lt_or_ge (l.getD p 0) 10 with h2 | h2
  ·exact h2
  ·have : 10 ^ p * 10 ≤ 10 ^ p * l.getD p 0 := Nat.mul_le_mul_left _ h2
   have hB : Ten.B = 10 := rfl
   rw [hB] at e
   omega
def X0 (p : List Nat × List Nat) (r : List Nat) : Prop := r.length = max p.1.length p.2.length + 1 ∧ Ten.dig r ∧ Ten.val r = Ten.val p.1 + Ten.val p.2
theorem zbn {l m o : List Nat} {c n : Nat} (hl : Ten.dig l) (hm : Ten.dig m) (hn : n = max l.length m.length + 1) (he : Ten.val o + 10 ^ n * c = Ten.val (l.take n) + Ten.val (m.take n)) : Ten.val o = Ten.val l + Ten.val m := by
 rw [List.take_of_length_le (by omega), List.take_of_length_le (by omega)] at he
 have h1 := Ten.zD hl
 have h2 := Ten.zD hm
 have hB : Ten.B = 10 := rfl
 rw [hB] at h1 h2
 have h3 : 10 ^ l.length ≤ 10 ^ (max l.length m.length) := Nat.pow_le_pow_right (by decide) (by omega)
 have h4 : 10 ^ m.length ≤ 10 ^ (max l.length m.length) := Nat.pow_le_pow_right (by decide) (by omega)
 have h5 : 10 ^ n = 10 ^ (max l.length m.length) * 10 := by rw [hn, Nat.pow_succ]
 rcases Nat.eq_zero_or_pos c with h | h
 ·rw [h] at he; omega
 ·have : 10 ^ n * 1 ≤ 10 ^ n * c := Nat.mul_le_mul_left _ h
  omega
theorem XD {l m : List Nat} (hl : Ten.dig l) (hm : Ten.dig m) : ∃ r, X0 (l, m) r := by
 have h1 := Ten.zD hl
 have h2 := Ten.zD hm
 have hB : Ten.B = 10 := rfl
 rw [hB] at h1 h2
 have h3 : 10 ^ l.length ≤ 10 ^ (max l.length m.length) := Nat.pow_le_pow_right (by decide) (by omega)
 have h4 : 10 ^ m.length ≤ 10 ^ (max l.length m.length) := Nat.pow_le_pow_right (by decide) (by omega)
 have h5 : 10 ^ (max l.length m.length + 1) = 10 ^ (max l.length m.length) * 10 := Nat.pow_succ _ _
 exact ⟨decs (max l.length m.length + 1) (Ten.val l + Ten.val m), w7 _ _, vJ _ _, vI _ _ (by omega)⟩
theorem Ks {vo vl vm p a b c d c' : Nat} (h : vo + p * c = vl + vm) (hd : d + 10 * c' = a + b + c) : vo + p * d + p * 10 * c' = vl + p * a + (vm + p * b) := by
 have := congrArg (p * ·) hd
 simp only [Nat.mul_add] at this
 rw [Nat.mul_assoc]
 omega
def JJ (p : List Nat × List Nat) (r : List Nat) : Prop := r.length = p.1.length + p.2.length ∧ Ten.dig r ∧ Ten.val r = Ten.val p.1 * Ten.val p.2
theorem XW {l m : List Nat} (hl : Ten.dig l) (hm : Ten.dig m) : Ten.val l * Ten.val m < 10 ^ (l.length + m.length) := by
 have h1 := Ten.zD hl
 have h2 := Ten.zD hm
 have hB : Ten.B = 10 := rfl
 rw [hB] at h1 h2
 rw [Nat.pow_add]
 exact Nat.mul_lt_mul_of_lt_of_lt h1 h2
theorem zan {l m : List Nat} (hl : Ten.dig l) (hm : Ten.dig m) : ∃ r, JJ (l, m) r :=
 ⟨decs (l.length + m.length) (Ten.val l * Ten.val m), w7 _ _, vJ _ _, vI _ _ (XW hl hm)⟩
theorem za3 {o : List Nat} {i j V a vt b : Nat} (hp : i + j < o.length) (h : Ten.val o = V + 10 ^ i * (a * vt)) : Ten.val (o.set (i + j) (o.getD (i + j) 0 + a * b)) = V + 10 ^ i * (a * (vt + 10 ^ j * b)) := by
 have hs := Ten.vC o (i + j) (o.getD (i + j) 0 + a * b) hp
 have hB : Ten.B = 10 := rfl
 rw [hB, Nat.mul_add, Nat.pow_add] at hs
 have e : 10 ^ i * (a * (vt + 10 ^ j * b)) = 10 ^ i * (a * vt) + 10 ^ i * 10 ^ j * (a * b) := by
  rw [Nat.mul_add, Nat.mul_add]
  congr 1
  rw [Nat.mul_assoc, Nat.mul_left_comm a]
 rw [e]
 omega
theorem Kg {o : List Nat} {i : Nat} (hi : i + 1 < o.length) : Ten.val ((o.set (i + 1) (o.getD (i + 1) 0 + o.getD i 0 / 10)).set i (o.getD i 0 % 10)) = Ten.val o := by
 have h1 := Ten.vC o (i + 1) (o.getD (i + 1) 0 + o.getD i 0 / 10) hi
 have h2 := Ten.vC (o.set (i + 1) (o.getD (i + 1) 0 + o.getD i 0 / 10)) i (o.getD i 0 % 10) (by simp; omega)
 have e : (o.set (i + 1) (o.getD (i + 1) 0 + o.getD i 0 / 10)).getD i 0 = o.getD i 0 := by
  simp only [List.getD]
  rw [List.getElem?_set_ne (by omega)]
 have hB : Ten.B = 10 := rfl
 rw [e, hB] at h2
 rw [hB, Nat.mul_add, Nat.pow_succ] at h1
 have hdm := Nat.div_add_mod (o.getD i 0) 10
 have : 10 ^ i * o.getD i 0 = 10 ^ i * 10 * (o.getD i 0 / 10) + 10 ^ i * (o.getD i 0 % 10) := by
  rw [Nat.mul_assoc, ← Nat.mul_add, hdm]
 omega
theorem wy {o : List Nat} {i p x : Nat} (hi : i < o.length) : (o.set i x).getD p 0 = if p = i then x else o.getD p 0 := by
 simp only [List.getD]
 by_cases h : p = i
 ·subst h; simp [hi]
 ·rw [List.getElem?_set_ne (by omega), if_neg h]
end Go.Nov
end

/- Cutting a piece of code at a place that is not a loop's head. -/
section
namespace Go.Sx
variable [Stat]
section
variable {O : Nat → Prop} {pin : Nat} {w0 : World} {σ0 : List SE} {P : Program} {fn : Func}
def fstC : Code → Code
 | .seq a _ => a
 | c => c
def sndC : Code → Code
 | .seq _ b => b
 | c => c
def blkC : Code → Code
 | .block _ c => c
 | c => c
def blkI : Code → Nat
 | .block i _ => i
 | _ => 0
theorem zd.cut {M : Option Nat} {ι : Type} {Hs : Nat → KV → Heap → Prop} {R : List AV → Heap → Prop} {k : List Item} {c : Code} {st : St} (S : ι → KV) (H : ι → Heap) (dk : Nat)
  (h1 : zZ M P fn O pin w0 σ0 (fun d kv h => if d = dk then ∃ x, LeK pin fn.ntmps kv h (S x) (H x) else Hs d kv h) R (.code c :: .inLoop :: k) st) (hd : wj k = dk)
  (h2 : ∀ x, zZ M P fn O pin w0 σ0 Hs R k (mk fn.ntmps (S x) (H x))) : zZ M P fn O pin w0 σ0 Hs R (.code c :: k) st := by
 subst hd
 intro w σ a hm
 have := h1 w σ a hm
 simp only [wpK] at this ⊢
 refine wpIn_mono this fun e a' w' he => ?_
 cases e with
 | normal =>
  simp only [wpK] at he
  obtain ⟨st', σ', ⟨kv, h, hh, rfl⟩, hm'⟩ := he
  rw [if_pos trivial] at hh
  obtain ⟨x, hle⟩ := hh
  exact h2 x w' _ a' (hle.le.mod hm')
 | _ =>
  simp only [wpK] at he
  refine jl (fun d a w hd hh => ?_) he
  obtain ⟨st', σ', ⟨kv, h, hh, rfl⟩, hm'⟩ := hh
  rw [if_neg (by omega)] at hh
  exact ⟨_, σ', ⟨kv, h, hh, rfl⟩, hm'⟩
theorem zd.seq {M : Option Nat} {Hs : Nat → KV → Heap → Prop} {R : List AV → Heap → Prop} {k : List Item} {c : Code} {st : St} (hc : c = .seq (fstC c) (sndC c))
  (h : zZ M P fn O pin w0 σ0 Hs R (.code (fstC c) :: .code (sndC c) :: k) st) : zZ M P fn O pin w0 σ0 Hs R (.code c :: k) st := by
 rw [hc]
 generalize fstC c = a at h
 generalize sndC c = b at h
 intro w σ act hm
 have := h w σ act hm
 simp only [wpK] at this ⊢
 refine wpIn_seq (wpIn_mono this fun e a w h => ?_)
 cases e <;> exact h
theorem zd.block {M : Option Nat} {Hs : Nat → KV → Heap → Prop} {R : List AV → Heap → Prop} {k : List Item} {c : Code} {st : St} (hc : c = .block (blkI c) (blkC c))
  (h : zZ M P fn O pin w0 σ0 Hs R (.code (blkC c) :: .inBlock (blkI c) :: k) st) : zZ M P fn O pin w0 σ0 Hs R (.code c :: k) st := by
 rw [hc]
 generalize blkC c = a at h
 generalize blkI c = i at h
 intro w σ act hm
 have := h w σ act hm
 simp only [wpK] at this ⊢
 refine wpIn_block (wpIn_mono this fun e a w h => ?_)
 cases e <;> exact h
end
end Go.Sx
end

/- The reference's integers: sums and products of digits. -/
section
set_option maxRecDepth 100000
open Go Go.Sx Go.Proofs Go.Nov
namespace Go.Proofs.Tryz
attribute [local simp] eqKV eqA eqA0 eqH eqB eqL eqL0
noncomputable def K90 : List Go.Sx.Item := [.code (Tryz.f90.body.getD .skip)]
noncomputable def K93 : List Go.Sx.Item := [.code (Tryz.f93.body.getD .skip)]
def Ul : Ctr := ctrP true (fun p : List Nat × List Nat => [nat6 p.1, nat6 p.2]) (fun p => Ten.dig p.1 ∧ Ten.dig p.2 ∧ p.1.length < 2 ^ 30 ∧ p.2.length < 2 ^ 30) X0 (fun _ r => (nat6 r, []))
def SPp (l m o : List Nat) (c i : Nat) : KV := [(0, nat6 l), (1, nat6 m), (5, .osl 0 1 0 o.length), (6, .int .i64 (c : Int)), (7, .int .i64 (i : Int))]
noncomputable def GPp : Nat → Option Ctr := fun f => if f = 101 then some (atC) else none
theorem Uo : ∀ g c, GPp g = some c → zg Tryz.prog g c := okIf zdi (zp)
theorem zaw : zg Tryz.prog 90 Ul := by
 refine zi (fn := Tryz.f90) (c := Tryz.f90.body.getD .skip) rfl rfl rfl fun p hp O w0 Q hq => ?_
 obtain ⟨l, m⟩ := p
 obtain ⟨hl, hm, hll, hml⟩ := hp
 simp only at hq hl hm hll hml
 refine zd.run hmix Uo [0, 1, 5, 6, 7] 400 (T := .leaf (.loop (Prod.fst (lps K90 0)) (Prod.snd (lps K90 0)) [(0, .sl l.length 1 (natG .i64 l)), (1, .sl m.length 1 (natG .i64 m)), (5, .nils), (6, .int .i64 0), (7, .int .i64 0)] [])) (by kernel_rfl) ?_
 simp only [Tree.holds, ze, inR, lo, hi, Int.toNat_natCast]
 refine zd.bear 5 1 (natG .i64 []) rfl (by decide) (by kernel_rfl) ?_
 refine zd.loop (ι := {z : List Nat × Nat × Nat // z.1.length = z.2.2 ∧ z.2.2 ≤ max l.length m.length + 1 ∧ Ten.dig z.1 ∧ z.2.1 ≤ 1 ∧ Ten.val z.1 + 10 ^ z.2.2 * z.2.1 = Ten.val (l.take z.2.2) + Ten.val (m.take z.2.2)}) (fun z => SPp l m z.1.1 z.1.2.1 z.1.2.2) (fun z => [.arr z.1.1.length 1 (natG .i64 z.1.1)]) (fun z => max l.length m.length + 1 - z.1.2.2) ⟨([], 0, 0), rfl, Nat.zero_le _, by simp [Ten.dig], Nat.zero_le _, by simp [Ten.val]⟩ 0 ?_ ?_ (by kernel_rfl)
 ·refine ⟨by simp [SPp, natS, zc, x8], by simp [zc], by kernel_rfl, Nat.zero_le _⟩
 ·rintro ⟨⟨o, b, i⟩, hol, hil, hod, hb, hv⟩
  refine zd.run hmix Uo [0, 1, 5, 6, 7] 400 (T := .ite (decide ((↑i : Int) ≤ max (↑l.length : Int) (↑m.length : Int))) (.ex (fun (x : List Nat × Nat) => eqL [AV.sl l.length 1 (natG .i64 l), AV.int .i64 i] [AV.sl x.1.length 1 (natG .i64 x.1), AV.int .i64 x.2] ∧ True) fun n => .all (fun (r : Nat) => r = List.getD n.1 n.2 0) fun n => .ex (fun (x : List Nat × Nat) => eqL [AV.sl m.length 1 (natG .i64 m), AV.int .i64 i] [AV.sl x.1.length 1 (natG .i64 x.1), AV.int .i64 x.2] ∧ True) fun n_1 => .all (fun (r : Nat) => r = List.getD n_1.1 n_1.2 0) fun n_2 => .side (inR .i64 ((↑n : Int) + n_2)) (.side (inR .i64 ((↑n : Int) + n_2 + (↑b : Int))) (.side ((10 : Int) ≠ 0) (.side (0 = 0 ∧ o.length ≤ o.length ∧ (o.length + 1) * 8 ≤ 140737488355328) (.side ((10 : Int) ≠ 0 ∧ inR .i64 (Int.tdiv ((↑n : Int) + n_2 + (↑b : Int)) (10 : Int))) (.side (inR .i64 ((↑i : Int) + (1 : Int))) (.leaf (.back 0 [(0, .sl l.length 1 (natG .i64 l)), (1, .sl m.length 1 (natG .i64 m)), (5, .osl 0 1 0 (o.length + 1)), (6, .int .i64 (Int.tdiv ((↑n : Int) + n_2 + (↑b : Int)) (10 : Int))), (7, .int .i64 ((↑i : Int) + (1 : Int)))] [.arr (o.length + 1) 1 (appG o.length (natG .i64 o) (zj (zf 1 [.int .i64 (Int.tmod ((↑n : Int) + n_2 + (↑b : Int)) (10 : Int))]) 0)), .arr 1 1 (zf 1 [.int .i64 (Int.tmod ((↑n : Int) + n_2 + (↑b : Int)) (10 : Int))])])))))))) (.leaf (.ret [.osl 0 1 0 o.length] [.arr o.length 1 (natG .i64 o)]))) (by kernel_rfl) ?_
  simp only [Tree.holds, ze, inR, lo, hi, Int.toNat_natCast]
  simp only at hol hil hod hb hv
  refine ⟨fun hlt => ?_, fun hge => ?_⟩
  ·have hlt : i ≤ max l.length m.length := by have := of_decide_eq_true hlt; omega
   refine ⟨(l, i), ⟨by simp [zc], trivial⟩, ⟨_, rfl⟩, ?_⟩
   rintro _ rfl
   refine ⟨(m, i), ⟨by simp [zc], trivial⟩, ⟨_, rfl⟩, ?_⟩
   rintro _ rfl
   simp only
   have h1 : l.getD i 0 < 10 := Ten.z7 hl i
   have h2 : m.getD i 0 < 10 := Ten.z7 hm i
   have step : ∀ d b', d + 10 * b' = l.getD i 0 + m.getD i 0 + b → Ten.val (o ++ [d]) + 10 ^ (i + 1) * b' = Ten.val (l.take (i + 1)) + Ten.val (m.take (i + 1)) := by
    intro d b' h
    rw [Ten.z6, Ten.zm, Ten.zm, hol, Nat.pow_succ]
    have := Ks hv h
    simpa [Ten.val] using this
   obtain ⟨x, hx⟩ : ∃ x, l.getD i 0 = x := ⟨_, rfl⟩
   obtain ⟨y, hy⟩ : ∃ y, m.getD i 0 = y := ⟨_, rfl⟩
   simp only [hx, hy] at h1 h2 step ⊢
   obtain ⟨v, hvv⟩ : ∃ v, x + y + b = v := ⟨_, rfl⟩
   have ev : (x : Int) + (y : Int) + (b : Int) = (v : Int) := by clear step; omega
   have ed : ((v : Int)).tdiv 10 = ((v / 10 : Nat) : Int) := rfl
   have em : ((v : Int)).tmod 10 = ((v % 10 : Nat) : Int) := rfl
   have hv2 : v / 10 ≤ 1 ∧ v % 10 < 10 ∧ v % 10 + 10 * (v / 10) = v := ⟨by clear step; omega, Nat.mod_lt _ (by decide), Nat.mod_add_div _ _⟩
   obtain ⟨g1, g2, g3⟩ := hv2
   rw [ev, ed, em]
   have hstep := step (v % 10) (v / 10) (by rw [g3, hvv])
   clear step
   generalize v / 10 = q at *
   generalize v % 10 = r at *
   refine ⟨by omega, fun _ => ⟨by omega, fun _ => ⟨by decide, fun _ => ⟨⟨trivial, Nat.le_refl _, by omega⟩, fun _ => ⟨⟨by decide, by omega, by omega⟩, fun _ => ⟨by omega, fun _ => ?_⟩⟩⟩⟩⟩⟩
   rw [if_pos trivial]
   refine ⟨⟨(o ++ [r], q, i + 1), by simp [hol], by simp only; omega, Ten.zY.2 ⟨hod, by simp only [Ten.dig, List.mem_singleton]; rintro _ rfl; exact g2⟩, g1, hstep⟩, by show max l.length m.length + 1 - (i + 1) < _; omega, by simp [SPp, natS, zc], qG rfl, by kernel_rfl, Nat.zero_le _⟩
  ·have hge : i = max l.length m.length + 1 := by have := of_decide_eq_false hge; omega
   exact RetR.nats (hq o ⟨by rw [hol, hge], hod, zbn hl hm hge hv⟩) rfl
def Js : Ctr := ctrP true (fun p : List Nat × List Nat => [nat6 p.1, nat6 p.2]) (fun p => Ten.dig p.1 ∧ Ten.dig p.2 ∧ 0 < p.1.length ∧ 0 < p.2.length ∧ p.1.length < 2 ^ 30 ∧ p.2.length < 2 ^ 30) JJ (fun _ r => (nat6 r, []))
def STm (l m o : List Nat) (i : Nat) : KV := [(0, nat6 l), (1, nat6 m), (5, .osl 0 1 0 o.length), (6, .int .i64 (i : Int)), (7, .undef), (8, .undef)]
def STm2 (l m o : List Nat) (i j : Nat) : KV := [(0, nat6 l), (1, nat6 m), (5, .osl 0 1 0 o.length), (6, .int .i64 (i : Int)), (7, .int .i64 (j : Int)), (8, .undef)]
def STm3 (o : List Nat) (i : Nat) : KV := [(0, .undef), (1, .undef), (5, .osl 0 1 0 o.length), (6, .undef), (7, .undef), (8, .int .i64 (i : Int))]
theorem Q5 {o : List Nat} {i : Nat} {v : Int} {x : Nat} (hv : v = x) (hi : i < o.length) : eqG o.length 1 (updG (natG .i64 o) i 0 [.int .i64 v]) (natG .i64 (o.set i x)) := by
 have := wh (k := .i64) (l := o) (v := v) (by omega) hi
 subst hv
 simpa using this
theorem Ws {O : Nat → Prop} {w0 : World} {Q : AV × Heap → Prop} {Hs : Nat → KV → Heap → Prop} (l m o0 : List Nat) (hl : Ten.dig l) (hm : Ten.dig m) (hll : 0 < l.length) (hml : 0 < m.length) (hl2 : l.length < 2 ^ 30) (hm2 : m.length < 2 ^ 30) (hlen : o0.length = l.length + m.length) (hv : Ten.val o0 = Ten.val l * Ten.val m) (hb : ∀ p, o0.getD p 0 ≤ 81 * 2 ^ 30)
  (hq : ∀ r, JJ (l, m) r → Q (nat6 r, [])) (kv : KV) (h : Heap) (hle : LeK 0 Tryz.f93.ntmps kv h (STm3 o0 0) [.arr o0.length 1 (natG .i64 o0)]) :
  zd Tryz.prog Tryz.f93 O 0 w0 [] Hs (RetR Js 0 Q) (.code (.loop (lps (inside K93 0) 1).1) :: (lps (inside K93 0) 1).2) (mk Tryz.f93.ntmps kv h) := by
 refine zd.loop (ι := {z : List Nat × Nat // z.1.length = l.length + m.length ∧ z.2 < l.length + m.length ∧ Ten.val z.1 = Ten.val l * Ten.val m ∧ (∀ p, p < z.2 → z.1.getD p 0 < 10) ∧ (∀ p, z.2 < p → z.1.getD p 0 ≤ 81 * 2 ^ 30) ∧ z.1.getD z.2 0 ≤ 2 * (81 * 2 ^ 30)}) (fun z => STm3 z.1.1 z.1.2) (fun z => [.arr z.1.1.length 1 (natG .i64 z.1.1)]) (fun z => l.length + m.length - z.1.2) ⟨(o0, 0), hlen, by simp only; omega, hv, fun p hp => by simp at hp, fun p _ => hb p, by have := hb 0; simp only; omega⟩ 0 hle ?_ (by kernel_rfl)
 rintro ⟨⟨o, i⟩, hol, hil, hov, h10, hM, h2M⟩
 simp only at hol hil hov h10 hM h2M
 by_cases hlt : i + 1 < o.length
 ·refine zd.seq (by kernel_rfl) (zd.cut (ι := Unit) (fun _ => STm3 o i) (fun _ => [.arr o.length 1 (natG .i64 o)]) 1 ?_ (by kernel_rfl) fun _ => ?_)
  ·refine zd.run hmix z3 [0, 1, 5, 6, 7, 8] 400 (T := .side (inR .i64 ((↑i : Int) + (1 : Int))) (.ite (decide ((↑i : Int) + (1 : Int) < o.length)) (.leaf (.back 1 [(0, .undef), (1, .undef), (5, .osl 0 1 0 o.length), (6, .undef), (7, .undef), (8, .int .i64 i)] [.arr o.length 1 (natG .i64 o)])) (.leaf (.ret [.osl 0 1 0 o.length] [.arr o.length 1 (natG .i64 o)])))) (by kernel_rfl) ?_
   simp only [Tree.holds, ze, inR, lo, hi, Int.toNat_natCast]
   refine ⟨by omega, fun _ => ⟨fun _ => ?_, fun hno => absurd (of_decide_eq_false hno) (by omega)⟩⟩
   rw [if_pos trivial]
   exact ⟨(), by simp [STm3], by simp [zc], by kernel_rfl, Nat.zero_le _⟩
  have hx : o.getD i 0 / 10 ≤ o.getD i 0 := Nat.div_le_self _ _
  have hnext := hM (i + 1) (by omega)
  have c1 : ((i : Int) + 1) = ((i + 1 : Nat) : Int) := by omega
  have hl1 : (o.set (i + 1) (o.getD (i + 1) 0 + o.getD i 0 / 10)).length = o.length := by simp
  refine zd.seq (by kernel_rfl) (zd.block (by kernel_rfl) (zd.seq (by kernel_rfl) (zd.cut (ι := Unit) (fun _ => STm3 (o.set (i + 1) (o.getD (i + 1) 0 + o.getD i 0 / 10)) i) (fun _ => [.arr (o.set (i + 1) (o.getD (i + 1) 0 + o.getD i 0 / 10)).length 1 (natG .i64 (o.set (i + 1) (o.getD (i + 1) 0 + o.getD i 0 / 10)))]) 1 ?_ (by kernel_rfl) fun _ => ?_)))
  ·refine zd.run hmix z3 [0, 1, 5, 6, 7, 8] 400 (T := .side (inR .i64 ((↑i : Int) + (1 : Int))) (.side (inR .i64 ((↑i : Int) + (1 : Int))) (.side ((0 : Int) ≤ i + (1 : Int) ∧ (↑i : Int) + (1 : Int) < o.length) (.side ((0 : Int) ≤ i ∧ (↑i : Int) < o.length) (.side ((10 : Int) ≠ 0 ∧ inR .i64 (Int.tdiv (↑(List.getD o (0 + Int.toNat (↑i : Int)) 0) : Int) (10 : Int))) (.side (inR .i64 ((↑(List.getD o (0 + Int.toNat ((↑i : Int) + (1 : Int))) 0) : Int) + Int.tdiv (↑(List.getD o (0 + Int.toNat (↑i : Int)) 0) : Int) (10 : Int))) (.side ((0 : Int) ≤ i + (1 : Int) ∧ (↑i : Int) + (1 : Int) < o.length) (.leaf (.back 1 [(0, .undef), (1, .undef), (5, .osl 0 1 0 o.length), (6, .undef), (7, .undef), (8, .int .i64 i)] [.arr o.length 1 (updG (natG .i64 o) (0 + Int.toNat ((↑i : Int) + (1 : Int))) 0 [.int .i64 ((↑(List.getD o (0 + Int.toNat ((↑i : Int) + (1 : Int))) 0) : Int) + Int.tdiv (↑(List.getD o (0 + Int.toNat (↑i : Int)) 0) : Int) (10 : Int))])]))))))))) (by kernel_rfl) ?_
   simp only [Tree.holds, ze, inR, lo, hi, c1, Int.toNat_natCast, Nat.zero_add]
   have ed : ((o.getD i 0 : Nat) : Int).tdiv 10 = ((o.getD i 0 / 10 : Nat) : Int) := rfl
   rw [ed]
   generalize ho1 : o.getD (i + 1) 0 = x1 at *
   generalize ho0 : o.getD i 0 / 10 = x0 at *
   iterate 7 refine ⟨by omega, fun _ => ?_⟩
   rw [if_pos trivial]
   refine ⟨(), by simp [STm3], ⟨⟨by simp, rfl, Q5 (by omega) hlt⟩, trivial⟩, by kernel_rfl, Nat.zero_le _⟩
  obtain ⟨o1, ho1⟩ : ∃ o1, o.set (i + 1) (o.getD (i + 1) 0 + o.getD i 0 / 10) = o1 := ⟨_, rfl⟩
  have hcar := Kg hlt
  have g0 : o1.getD i 0 = o.getD i 0 := by rw [← ho1, wy hlt, if_neg (by omega)]
  have g1 : o1.getD (i + 1) 0 = o.getD (i + 1) 0 + o.getD i 0 / 10 := by rw [← ho1, wy hlt, if_pos rfl]
  have gn : ∀ p, p ≠ i + 1 → o1.getD p 0 = o.getD p 0 := fun p hp => by rw [← ho1, wy hlt, if_neg hp]
  have hl2' : o1.length = o.length := by rw [← ho1]; simp
  rw [ho1] at hcar ⊢
  rw [← g0] at hcar
  refine zd.run hmix z3 [0, 1, 5, 6, 7, 8] 400 (T := .side ((0 : Int) ≤ i ∧ (↑i : Int) < o1.length) (.side ((10 : Int) ≠ 0) (.side ((0 : Int) ≤ i ∧ (↑i : Int) < o1.length) (.side (inR .i64 ((↑i : Int) + (1 : Int))) (.leaf (.back 0 [(0, .undef), (1, .undef), (5, .osl 0 1 0 o1.length), (6, .undef), (7, .undef), (8, .int .i64 ((↑i : Int) + (1 : Int)))] [.arr o1.length 1 (updG (natG .i64 o1) (0 + Int.toNat (↑i : Int)) 0 [.int .i64 (Int.tmod (↑(List.getD o1 (0 + Int.toNat (↑i : Int)) 0) : Int) (10 : Int))])])))))) (by kernel_rfl) ?_
  simp only [Tree.holds, ze, inR, lo, hi, c1, Int.toNat_natCast, Nat.zero_add]
  have em : ((o1.getD i 0 : Nat) : Int).tmod 10 = ((o1.getD i 0 % 10 : Nat) : Int) := rfl
  rw [em]
  have hm10 : o1.getD i 0 % 10 < 10 := Nat.mod_lt _ (by decide)
  iterate 4 refine ⟨by first | omega | decide, fun _ => ?_⟩
  rw [if_pos trivial]
  refine ⟨⟨(o1.set i (o1.getD i 0 % 10), i + 1), by simp [hl2', hol], by omega, by rw [hcar]; exact hov, fun p hp => ?_, fun p hp => ?_, ?_⟩, by show _ - (i + 1) < _ - i; omega, by simp [STm3], ⟨⟨by simp, rfl, Q5 rfl (by omega)⟩, trivial⟩, by kernel_rfl, Nat.zero_le _⟩
  ·show (o1.set i _).getD p 0 < 10
   rw [wy (by omega)]
   split
   ·exact hm10
   ·rw [gn p (by have : p < i + 1 := hp; omega)]; exact h10 p (by have : p < i + 1 := hp; omega)
  ·have hp : i + 1 < p := hp
   show (o1.set i _).getD p 0 ≤ _
   rw [wy (by omega), if_neg (by omega), gn p (by omega)]
   exact hM p (by omega)
  ·show (o1.set i _).getD (i + 1) 0 ≤ _
   rw [wy (by omega), if_neg (by omega), g1]
   have : o.getD i 0 / 10 ≤ 2 * (81 * 2 ^ 30) / 10 := Nat.div_le_div_right h2M
   omega
 ·refine zd.seq (by kernel_rfl) (zd.cut (ι := {x : Unit // False}) (fun _ => []) (fun _ => []) 1 ?_ (by kernel_rfl) fun x => x.2.elim)
  ·refine zd.run hmix z3 [0, 1, 5, 6, 7, 8] 400 (T := .side (inR .i64 ((↑i : Int) + (1 : Int))) (.ite (decide ((↑i : Int) + (1 : Int) < o.length)) (.leaf (.back 1 [(0, .undef), (1, .undef), (5, .osl 0 1 0 o.length), (6, .undef), (7, .undef), (8, .int .i64 i)] [.arr o.length 1 (natG .i64 o)])) (.leaf (.ret [.osl 0 1 0 o.length] [.arr o.length 1 (natG .i64 o)])))) (by kernel_rfl) ?_
   simp only [Tree.holds, ze, inR, lo, hi, Int.toNat_natCast]
   refine ⟨by omega, fun _ => ⟨fun hno => absurd (of_decide_eq_true hno) (by omega), fun _ => ?_⟩⟩
   refine RetR.nats (hq o ⟨hol, zbi (n := i) (by omega) h10 ?_, hov⟩) rfl
   rw [hov]
   have := XW hl hm
   rw [show i + 1 = l.length + m.length by omega]
   exact this
theorem Y7 {o : List Nat} {v : Int} {i d i' : Nat} (hv : v = d) (hi : i < o.length) (hi' : i' = i) : eqH [.arr o.length 1 (updG (natG .i64 o) i' 0 [.int .i64 v])] [.arr (o.set i d).length 1 (natG .i64 (o.set i d))] := heap_set hv hi hi'
theorem YE : zg Tryz.prog 93 Js := by
 refine zi (fn := Tryz.f93) (c := Tryz.f93.body.getD .skip) rfl rfl rfl fun p hp O w0 Q hq => ?_
 obtain ⟨l, m⟩ := p
 obtain ⟨hl, hm, hll, hml, hl2, hm2⟩ := hp
 simp only at hq hl hm hll hml hl2 hm2
 refine zd.run hmix z3 [0, 1, 5, 6, 7, 8] 400 (T := .side (inR .i64 ((↑l.length : Int) + m.length)) (.side ((0 : Int) ≤ l.length + (↑m.length : Int) ∧ (↑l.length : Int) + m.length ≤ (↑l.length : Int) + m.length ∧ inR .i64 ((↑l.length : Int) + m.length) ∧ Int.toNat ((↑l.length : Int) + m.length) * 8 ≤ 140737488355328) (.leaf (.loop (Prod.fst (lps K93 0)) (Prod.snd (lps K93 0)) [(0, .sl l.length 1 (natG .i64 l)), (1, .sl m.length 1 (natG .i64 m)), (5, .osl 0 1 0 (Int.toNat ((↑l.length : Int) + m.length))), (6, .int .i64 0), (7, .undef), (8, .undef)] [.arr (Int.toNat ((↑l.length : Int) + m.length)) 1 (w6 [.int .i64 0])])))) (by kernel_rfl) ?_
 have es : ((l.length : Int) + (m.length : Int)) = ((l.length + m.length : Nat) : Int) := by omega
 simp only [Tree.holds, ze, inR, lo, hi, es, Int.toNat_natCast]
 refine ⟨by omega, fun _ => ⟨by omega, fun _ => ?_⟩⟩
 have hrep : ∀ p, (List.replicate (l.length + m.length) 0).getD p 0 = 0 := fun p => by
  simp only [List.getD, List.getElem?_replicate]
  split <;> rfl
 refine zd.loop (ι := {z : List Nat × Nat // z.1.length = l.length + m.length ∧ z.2 ≤ l.length ∧ Ten.val z.1 = Ten.val (l.take z.2) * Ten.val m ∧ ∀ p, z.1.getD p 0 ≤ 81 * z.2}) (fun z => STm l m z.1.1 z.1.2) (fun z => [.arr z.1.1.length 1 (natG .i64 z.1.1)]) (fun z => l.length - z.1.2) ⟨(List.replicate (l.length + m.length) 0, 0), by simp, Nat.zero_le _, by simp [Ten.q6, Ten.val], fun p => by simp only [hrep]; exact Nat.zero_le _⟩ 0 ?_ ?_ (by kernel_rfl)
 ·exact ⟨by simp [STm, natS, zc], by simp [xo], by kernel_rfl, Nat.zero_le _⟩
 rintro ⟨⟨o, i⟩, hol, hil, hov, hob⟩
 simp only at hol hil hov hob
 refine zd.run hmix z3 [0, 1, 5, 6, 7, 8] 400 (T := .ite (decide ((↑i : Int) < l.length)) (.leaf (.loop (Prod.fst (lps (inside K93 0) 0)) (Prod.snd (lps (inside K93 0) 0)) [(0, .sl l.length 1 (natG .i64 l)), (1, .sl m.length 1 (natG .i64 m)), (5, .osl 0 1 0 o.length), (6, .int .i64 i), (7, .int .i64 0), (8, .undef)] [.arr o.length 1 (natG .i64 o)])) (.leaf (.loop (Prod.fst (lps (inside K93 0) 1)) (Prod.snd (lps (inside K93 0) 1)) [(0, .sl l.length 1 (natG .i64 l)), (1, .sl m.length 1 (natG .i64 m)), (5, .osl 0 1 0 o.length), (6, .int .i64 i), (7, .undef), (8, .int .i64 0)] [.arr o.length 1 (natG .i64 o)]))) (by kernel_rfl) ?_
 simp only [Tree.holds, ze, inR, lo, hi, Int.toNat_natCast]
 refine ⟨fun hlt => ?_, fun hge => ?_⟩
 ·have hlt : i < l.length := by have := of_decide_eq_true hlt; omega
  refine zd.loop (ι := {z : List Nat × Nat // z.1.length = l.length + m.length ∧ z.2 ≤ m.length ∧ Ten.val z.1 = Ten.val (l.take i) * Ten.val m + 10 ^ i * (l.getD i 0 * Ten.val (m.take z.2)) ∧ (∀ p, z.1.getD p 0 ≤ 81 * i + 81) ∧ ∀ p, i + z.2 ≤ p → z.1.getD p 0 ≤ 81 * i}) (fun z => STm2 l m z.1.1 i z.1.2) (fun z => [.arr z.1.1.length 1 (natG .i64 z.1.1)]) (fun z => m.length - z.1.2) ⟨(o, 0), hol, Nat.zero_le _, by simp [hov, Ten.val], fun p => by have := hob p; simp only; omega, fun p _ => hob p⟩ 1 ?_ ?_ (by kernel_rfl)
  ·exact ⟨by simp [STm2, natS, zc], by simp [zc], by kernel_rfl, Nat.zero_le _⟩
  rintro ⟨⟨o2, j⟩, hol2, hjl, hov2, hob2, hob3⟩
  simp only at hol2 hjl hov2 hob2 hob3
  have e1 : ((i : Int) + (j : Int)) = ((i + j : Nat) : Int) := by omega
  refine zd.run hmix z3 [0, 1, 5, 6, 7, 8] 400 (T := .ite (decide ((↑j : Int) < m.length)) (.side (inR .i64 ((↑i : Int) + j)) (.side (inR .i64 ((↑i : Int) + j)) (.side ((0 : Int) ≤ i + (↑j : Int) ∧ (↑i : Int) + j < (↑o2.length : Int)) (.side ((0 : Int) ≤ i ∧ (↑i : Int) < l.length) (.side ((0 : Int) ≤ j ∧ (↑j : Int) < m.length) (.side (inR .i64 ((↑(List.getD l (Int.toNat (↑i : Int)) 0) : Int) * (↑(List.getD m (Int.toNat (↑j : Int)) 0) : Int))) (.side (inR .i64 ((↑(List.getD o2 (0 + Int.toNat ((↑i : Int) + j)) 0) : Int) + (↑(List.getD l (Int.toNat (↑i : Int)) 0) : Int) * (↑(List.getD m (Int.toNat (↑j : Int)) 0) : Int))) (.side ((0 : Int) ≤ i + (↑j : Int) ∧ (↑i : Int) + j < (↑o2.length : Int)) (.side (inR .i64 ((↑j : Int) + (1 : Int))) (.leaf (.back 1 [(0, .sl l.length 1 (natG .i64 l)), (1, .sl m.length 1 (natG .i64 m)), (5, .osl 0 1 0 o2.length), (6, .int .i64 i), (7, .int .i64 ((↑j : Int) + (1 : Int))), (8, .undef)] [.arr o2.length 1 (updG (natG .i64 o2) (0 + Int.toNat ((↑i : Int) + j)) 0 [.int .i64 ((↑(List.getD o2 (0 + Int.toNat ((↑i : Int) + j)) 0) : Int) + (↑(List.getD l (Int.toNat (↑i : Int)) 0) : Int) * (↑(List.getD m (Int.toNat (↑j : Int)) 0) : Int))])]))))))))))) (.side (inR .i64 ((↑i : Int) + (1 : Int))) (.leaf (.back 0 [(0, .sl l.length 1 (natG .i64 l)), (1, .sl m.length 1 (natG .i64 m)), (5, .osl 0 1 0 o2.length), (6, .int .i64 ((↑i : Int) + (1 : Int))), (7, .int .i64 j), (8, .undef)] [.arr o2.length 1 (natG .i64 o2)])))) (by kernel_rfl) ?_
  simp only [Tree.holds, ze, inR, lo, hi, e1, Int.toNat_natCast, Nat.zero_add]
  have hx : l.getD i 0 < 10 := Ten.z7 hl i
  have hy : m.getD j 0 < 10 := Ten.z7 hm j
  have hxy : l.getD i 0 * m.getD j 0 ≤ 9 * 9 := Nat.mul_le_mul (by omega) (by omega)
  have e3 : (((l.getD i 0 : Nat) : Int)) * ((m.getD j 0 : Nat) : Int) = ((l.getD i 0 * m.getD j 0 : Nat) : Int) := by simp
  rw [e3]
  have hob3' := hob3 (i + j) (Nat.le_refl _)
  refine ⟨fun hj => ?_, fun hj => ?_⟩
  ·have hj : j < m.length := by have := of_decide_eq_true hj; omega
   have hp : i + j < o2.length := by omega
   have hcell := za3 (o := o2) (i := i) (j := j) (V := Ten.val (l.take i) * Ten.val m) (a := l.getD i 0) (vt := Ten.val (m.take j)) (b := m.getD j 0) hp hov2
   have htk := Ten.zm m j
   have hB : Ten.B = 10 := rfl
   rw [hB] at htk
   rw [← htk] at hcell
   generalize hxyv : l.getD i 0 * m.getD j 0 = xy at *
   iterate 9 refine ⟨by omega, fun _ => ?_⟩
   rw [if_pos trivial]
   refine ⟨⟨(o2.set (i + j) (o2.getD (i + j) 0 + xy), j + 1), by simpa using hol2, hj, hcell, fun p => ?_, fun p hp2 => ?_⟩, by show _ - (j + 1) < _ - j; omega, by simp [STm2, natS, zc], Y7 (by omega) hp rfl, by kernel_rfl, Nat.zero_le _⟩
   ·show (o2.set _ _).getD p 0 ≤ _
    rw [wy hp]
    split
    ·omega
    ·exact hob2 p
   ·have hp2 : i + (j + 1) ≤ p := hp2
    show (o2.set _ _).getD p 0 ≤ _
    rw [wy hp, if_neg (by omega)]
    exact hob3 p (by omega)
  ·have hj : j = m.length := by have := of_decide_eq_false hj; omega
   subst hj
   refine ⟨by omega, fun _ => ?_⟩
   rw [if_neg (by decide), if_pos trivial]
   refine ⟨⟨(o2, i + 1), hol2, hlt, ?_, fun p => by have := hob2 p; simp only; omega⟩, by show _ - (i + 1) < _ - i; omega, by simp [STm, natS, zc], by simp [zc], by kernel_rfl, Nat.zero_le _⟩
   show Ten.val o2 = Ten.val (l.take (i + 1)) * Ten.val m
   rw [List.take_length] at hov2
   have htk := Ten.zm l i
   have hB : Ten.B = 10 := rfl
   rw [hB] at htk
   rw [hov2, htk, Nat.add_mul, Nat.mul_assoc]
 ·have hge : i = l.length := by have := of_decide_eq_false hge; omega
  subst hge
  rw [List.take_length] at hov
  exact Ws l m o hl hm hll hml hl2 hm2 hol hov (fun p => by have := hob p; omega) hq _ _ ⟨by simp [STm3], by simp [zc], by kernel_rfl, Nat.zero_le _⟩
end Go.Proofs.Tryz
end

/- The reference's integers: sums, products, quotients, comparisons. -/
section
set_option maxRecDepth 100000
open Go Go.Sx Go.Proofs Go.Nov
namespace Go.Proofs.Tryz
attribute [local simp] eqKV eqA eqA0 eqH eqB eqL eqL0
theorem Xp (neg : Bool) (x : Nat) : errI (qF neg x) = (wr neg x).2 ∧ ((wr neg x).2 = 0 → qF neg x = (wr neg x).1) := by
 unfold qF wr
 by_cases h0 : x = 0
 ·rw [if_pos h0, if_pos h0]; exact ⟨rfl, fun _ => rfl⟩
 ·rw [if_neg h0, if_neg h0]
  have e : errI (sgn neg (txt x)) = if 1000 < (dec x).length then 14 else 0 := by
   unfold errI
   rw [Jj h0]
   simp only [Wr h0, if_true]
   rw [xz h0]
  by_cases h1 : 1000 < (dec x).length
  ·rw [if_pos h1] at e ⊢
   exact ⟨e, fun h => (by cases h)⟩
  ·rw [if_neg h1] at e ⊢
   exact ⟨e, fun _ => rfl⟩
theorem yK {neg : Bool} {x : Nat} (h : room x) : qF neg x = (wr neg x).1 := (Xp neg x).2 (wG h)
theorem zbu (neg : Bool) (x : Nat) : (qF neg x).length ≤ 1 + (dec x).length := by
 unfold qF
 by_cases h0 : x = 0
 ·rw [if_pos h0]; simp
 ·rw [if_neg h0]
  have := XT neg (txt x)
  rw [xz h0] at this
  omega
def zdt : Ctr := ctrP true (fun p : List Nat × Bool => [nat6 p.1, .bool p.2]) (fun p => Ten.dig p.1 ∧ p.1.length < 2 ^ 31) (fun p r => r = wr p.2 (Ten.val p.1)) (fun _ r => (.tup [.str r.1, .int .i64 r.2], []))
noncomputable def GRr : Nat → Option Ctr := fun f => if f = 88 then some (uo) else if f = 100 then some (Jr) else none
theorem zf2 : ∀ g c, GRr g = some c → zg Tryz.prog g c := okIf ym (okIf QL (zp))
theorem zd9 : zg Tryz.prog 89 zdt := by
 refine zi (fn := Tryz.f89) (c := Tryz.f89.body.getD .skip) rfl rfl rfl fun p hp O w0 Q hq => ?_
 obtain ⟨d, neg⟩ := p
 obtain ⟨hd, hl⟩ := hp
 replace hq := hq _ rfl
 simp only at hd hl hq
 refine zd.run hmix zf2 [] 400 (T := .ex (fun (x : List Nat × Bool) => eqL [AV.sl d.length 1 (natG .i64 d), AV.bool neg] [AV.sl x.1.length 1 (natG .i64 x.1), AV.bool x.2] ∧ Ten.dig x.1 ∧ x.1.length < 1099511627776) fun n => .all (fun (r : List UInt8) => r = qF n.2 (Ten.val n.1)) fun n => .ex (fun (x : List UInt8) => eqL [AV.str n] [AV.str x] ∧ x.length < 1099511627776) fun n_1 => .all (fun (r : Int) => r = errI n_1) fun n_2 => .ite (!decide (n_2 = 0)) (.leaf (.ret [.str (Array.toList #[]), .int .i64 14] [])) (.leaf (.ret [.str n, .int .i64 0] []))) (by kernel_rfl) ?_
 simp only [Tree.holds, ze]
 have hlen : (dec (Ten.val d)).length ≤ d.length := vY (by have := Ten.zD hd; have hB : Ten.B = 10 := rfl; rw [hB] at this; exact this)
 have htl := zbu neg (Ten.val d)
 obtain ⟨t1, t2⟩ := Xp neg (Ten.val d)
 refine ⟨(d, neg), ⟨⟨⟨rfl, rfl, zc _ _ _⟩, rfl, trivial⟩, hd, by show d.length < _; omega⟩, ⟨_, rfl⟩, ?_⟩
 rintro _ rfl
 refine ⟨qF neg (Ten.val d), ⟨by simp, by omega⟩, ⟨_, rfl⟩, ?_⟩
 intro e he
 rw [t1] at he
 refine ⟨fun h => ?_, fun h => ?_⟩
 ·have h : e ≠ 0 := by simpa using h
  rcases JR neg (Ten.val d) with g | g
  ·exact absurd (he.trans g) h
  ·rw [g] at hq
   exact RetR.scal hq rfl (by simp [resV])
 ·have h : e = 0 := by simpa using h
  have g : (wr neg (Ten.val d)).2 = 0 := by rw [← he, h]
  have e2 : wr neg (Ten.val d) = (qF neg (Ten.val d), 0) := by rw [t2 g, ← g]
  rw [e2] at hq
  exact RetR.scal hq rfl (by simp [resV])
def zdz : Ctr := ctrP true (fun s : List UInt8 => [.str s]) (fun s => errI s = 0 ∧ s.length < 2 ^ 40) (fun s r => r = (wz (-zI s)).1) (fun _ r => (.str r, []))
noncomputable def GRn : Nat → Option Ctr := fun f => if f = 88 then some (uo) else if f = 62 then some (vA) else none
theorem zed : ∀ g c, GRn g = some c → zg Tryz.prog g c := okIf ym (okIf vS (zp))
theorem zf0 {s : List UInt8} (h : errI s = 0) : (wz (-zI s)).1 = qF (!negI s) (numI s) := by
 rw [yK (qU h), Q6]
 congr 2
 unfold zI
 cases negI s <;> simp
theorem zda : zg Tryz.prog 102 zdz := by
 refine zi (fn := Tryz.f102) (c := Tryz.f102.body.getD .skip) rfl rfl rfl fun s hp O w0 Q hq => ?_
 obtain ⟨he, hl⟩ := hp
 replace hq := hq _ rfl
 refine zd.run hmix zed [] 400 (T := .ex (fun (x : List UInt8) => eqL [AV.str s] [AV.str x] ∧ x.length < 1099511627776) fun n => .all (fun (r : List Nat × Bool × Bool) => r = digR n) fun n => .ex (fun (x : List Nat × Bool) => eqL [AV.sl n.1.length 1 (natG .i64 n.1), AV.bool !Prod.fst n.2] [AV.sl x.1.length 1 (natG .i64 x.1), AV.bool x.2] ∧ Ten.dig x.1 ∧ x.1.length < 1099511627776) fun n => .all (fun (r : List UInt8) => r = qF n.2 (Ten.val n.1)) fun n => .leaf (.ret [.str n] [])) (by kernel_rfl) ?_
 simp only [Tree.holds, ze]
 obtain ⟨a1, a2, a3, a4⟩ := wB he
 rw [zf0 he, ← a4] at hq
 refine ⟨s, ⟨by simp, hl⟩, ⟨_, rfl⟩, ?_⟩
 rintro _ rfl
 rw [a1]
 refine ⟨(dg (parse s).2, !(parse s).1), ⟨⟨⟨rfl, rfl, zc _ _ _⟩, rfl, trivial⟩, a2, by show (dg (parse s).2).length < _; omega⟩, ⟨_, rfl⟩, ?_⟩
 rintro _ rfl
 exact RetR.scal hq rfl (by simp [resV, negI])
noncomputable def GRa : Nat → Option Ctr := fun f => if f = 85 then some (Xg) else if f = 62 then some (vA) else if f = 90 then some (Ul) else if f = 92 then some (Wk) else if f = 91 then some (yC) else if f = 89 then some (zdt) else if f = 93 then some (Js) else if f = 86 then some (zam) else if f = 87 then some (W3) else if f = 88 then some (uo) else none
theorem Ki : ∀ g c, GRa g = some c → zg Tryz.prog g c := okIf Jq (okIf vS (okIf zaw (okIf QT (okIf xD (okIf zd9 (okIf YE (okIf Xw (okIf XL (okIf ym (zp))))))))))
def YT : Ctr := ctrP true (fun p : List UInt8 × List UInt8 => [.str p.1, .str p.2]) (fun p => p.1.length < 2 ^ 40 ∧ p.2.length < 2 ^ 40) (fun p r => r = addI p.1 p.2) (fun _ r => (.tup [.str r.1, .int .i64 r.2], []))
def UC : Ctr := ctrP true (fun p : List UInt8 × List UInt8 => [.str p.1, .str p.2]) (fun p => p.1.length < 2 ^ 40 ∧ p.2.length < 2 ^ 40) (fun p r => r = mulI p.1 p.2) (fun _ r => (.tup [.str r.1, .int .i64 r.2], []))
def rdmC : Ctr := ctrP true (fun p : List UInt8 × List UInt8 => [.str p.1, .str p.2]) (fun p => p.1.length < 2 ^ 40 ∧ p.2.length < 2 ^ 40) (fun p r => r = dmI p.1 p.2) (fun _ r => (.tup [.str r.1, .str r.2.1, .int .i64 r.2.2], []))
theorem eqL2 (a b : List Nat) : eqL [AV.sl a.length 1 (natG .i64 a), AV.sl b.length 1 (natG .i64 b)] [nat6 a, nat6 b] := ⟨⟨rfl, rfl, zc _ _ _⟩, ⟨rfl, rfl, zc _ _ _⟩, trivial⟩
theorem eqLb (a : List Nat) (b : Bool) : eqL [AV.sl a.length 1 (natG .i64 a), .bool b] [nat6 a, .bool b] := ⟨⟨rfl, rfl, zc _ _ _⟩, rfl, trivial⟩
theorem zcp : zg Tryz.prog 67 YT := by
 refine zi (fn := Tryz.f67) (c := Tryz.f67.body.getD .skip) rfl rfl rfl fun p hp O w0 Q hq => ?_
 obtain ⟨s, t⟩ := p
 obtain ⟨hs, ht⟩ := hp
 replace hq := hq _ rfl
 simp only at hs ht hq
 refine zd.run hmix Ki [] 400 (T := .ex (fun (x : List UInt8 × List UInt8) => eqL [AV.str s, AV.str t] [AV.str x.1, AV.str x.2] ∧ x.1.length < 1099511627776 ∧ x.2.length < 1099511627776) fun n => .all (fun (r : Int) => r = zq n.1 n.2) fun n => .ite (!decide (n = 0)) (.leaf (.ret [.str (Array.toList #[]), .int .i64 n] [])) (.ex (fun (x : List UInt8) => eqL [AV.str s] [AV.str x] ∧ x.length < 1099511627776) fun n => .all (fun (r : List Nat × Bool × Bool) => r = digR n) fun n => .ex (fun (x : List UInt8) => eqL [AV.str t] [AV.str x] ∧ x.length < 1099511627776) fun n_1 => .all (fun (r : List Nat × Bool × Bool) => r = digR n_1) fun n_2 => .ite (n.2.1 == n_2.2.1) (.ex (fun (x : List Nat × List Nat) => eqL [AV.sl n.1.length 1 (natG .i64 n.1), AV.sl n_2.1.length 1 (natG .i64 n_2.1)] [AV.sl x.1.length 1 (natG .i64 x.1), AV.sl x.2.length 1 (natG .i64 x.2)] ∧ Ten.dig x.1 ∧ Ten.dig x.2 ∧ x.1.length < 1073741824 ∧ x.2.length < 1073741824) fun n_3 => .all (X0 n_3) fun n_4 => .ex (fun (x : List Nat × Bool) => eqL [AV.sl n_4.length 1 (natG .i64 n_4), AV.bool (n.2.1)] [AV.sl x.1.length 1 (natG .i64 x.1), AV.bool x.2] ∧ Ten.dig x.1 ∧ x.1.length < 2147483648) fun n => .all (fun (r : List UInt8 × Int) => r = wr n.2 (Ten.val n.1)) fun n => .leaf (.ret [.str n.1, .int .i64 n.2] [])) (.ex (fun (x : List Nat × List Nat) => eqL [AV.sl n.1.length 1 (natG .i64 n.1), AV.sl n_2.1.length 1 (natG .i64 n_2.1)] [AV.sl x.1.length 1 (natG .i64 x.1), AV.sl x.2.length 1 (natG .i64 x.2)] ∧ Ten.dig x.1 ∧ Ten.dig x.2 ∧ x.1.length < 4611686018427387904 ∧ x.2.length < 4611686018427387904) fun n_3 => .all (fun (r : Int) => r = cmpN (Ten.val n_3.1) (Ten.val n_3.2)) fun n_4 => .ite (decide ((0 : Int) ≤ n_4)) (.ex (fun (x : List Nat × List Nat) => eqL [AV.sl n.1.length 1 (natG .i64 n.1), AV.sl n_2.1.length 1 (natG .i64 n_2.1)] [AV.sl x.1.length 1 (natG .i64 x.1), AV.sl x.2.length 1 (natG .i64 x.2)] ∧ Ten.dig x.1 ∧ Ten.dig x.2 ∧ x.1.length < 1099511627776 ∧ Ten.val x.2 ≤ Ten.val x.1) fun n_5 => .all (fun (r : List Nat) => r.length = n_5.1.length ∧ Ten.dig r ∧ Ten.val r + Ten.val n_5.2 = Ten.val n_5.1) fun n_6 => .ex (fun (x : List Nat × Bool) => eqL [AV.sl n_6.length 1 (natG .i64 n_6), AV.bool (n.2.1)] [AV.sl x.1.length 1 (natG .i64 x.1), AV.bool x.2] ∧ Ten.dig x.1 ∧ x.1.length < 2147483648) fun n => .all (fun (r : List UInt8 × Int) => r = wr n.2 (Ten.val n.1)) fun n => .leaf (.ret [.str n.1, .int .i64 n.2] [])) (.ex (fun (x : List Nat × List Nat) => eqL [AV.sl n_2.1.length 1 (natG .i64 n_2.1), AV.sl n.1.length 1 (natG .i64 n.1)] [AV.sl x.1.length 1 (natG .i64 x.1), AV.sl x.2.length 1 (natG .i64 x.2)] ∧ Ten.dig x.1 ∧ Ten.dig x.2 ∧ x.1.length < 1099511627776 ∧ Ten.val x.2 ≤ Ten.val x.1) fun n => .all (fun (r : List Nat) => r.length = n.1.length ∧ Ten.dig r ∧ Ten.val r + Ten.val n.2 = Ten.val n.1) fun n => .ex (fun (x : List Nat × Bool) => eqL [AV.sl n.length 1 (natG .i64 n), AV.bool (n_2.2.1)] [AV.sl x.1.length 1 (natG .i64 x.1), AV.bool x.2] ∧ Ten.dig x.1 ∧ x.1.length < 2147483648) fun n => .all (fun (r : List UInt8 × Int) => r = wr n.2 (Ten.val n.1)) fun n => .leaf (.ret [.str n.1, .int .i64 n.2] []))))) (by kernel_rfl) ?_
 simp only [Tree.holds, ze]
 refine ⟨(s, t), ⟨by simp, hs, ht⟩, ⟨_, rfl⟩, ?_⟩
 rintro _ rfl
 simp only
 refine ⟨fun he => ?_, fun he => ?_⟩
 ·have he : zq s t ≠ 0 := by
   intro h; simp [h] at he
  have e : addI s t = ([], zq s t) := if_neg he
  rw [e] at hq
  exact RetR.scal hq rfl (by simp [resV])
 have he : zq s t = 0 := by
  refine Decidable.byContradiction fun h => ?_
  simp [h] at he
 obtain ⟨h1, h2⟩ := zk.1 he
 have e : addI s t = wr (sumS (negI s) (numI s) (negI t) (numI t)).1 (sumS (negI s) (numI s) (negI t) (numI t)).2 := if_pos he
 rw [e] at hq
 refine ⟨s, ⟨by simp, hs⟩, ⟨_, rfl⟩, ?_⟩
 rintro _ rfl
 refine ⟨t, ⟨by simp, ht⟩, ⟨_, rfl⟩, ?_⟩
 rintro _ rfl
 obtain ⟨a1, a2, a3, a4⟩ := wB h1
 obtain ⟨b1, b2, b3, b4⟩ := wB h2
 rw [a1, b1]
 have ea : (parse s).1 = negI s := rfl
 have eb : (parse t).1 = negI t := rfl
 simp only [ea, eb]
 rw [← a4, ← b4] at hq
 generalize dg (parse s).2 = x at *
 generalize dg (parse t).2 = y at *
 generalize negI s = m at *
 generalize negI t = n at *
 have fin : ∀ (d : List Nat) (b : Bool), wr b (Ten.val d) = wr (sumS m (Ten.val x) n (Ten.val y)).1 (sumS m (Ten.val x) n (Ten.val y)).2 → ∀ r, r = wr b (Ten.val d) → RetR YT 0 Q [.str r.1, .int .i64 r.2] [] := by
  rintro d b h _ rfl
  rw [← h] at hq
  exact RetR.scal hq rfl (by simp [resV])
 refine ⟨fun h => ?_, fun h => ⟨(x, y), ⟨eqL2 x y, a2, b2, by show x.length < _; omega, by show y.length < _; omega⟩, ⟨_, rfl⟩, ?_⟩⟩
 ·have h : m = n := by simpa using h
  refine ⟨(x, y), ⟨eqL2 x y, a2, b2, by show x.length < _; omega, by show y.length < _; omega⟩, XD a2 b2, ?_⟩
  rintro z ⟨g1, g2, g3⟩
  simp only at g1 g3
  refine ⟨(z, m), ⟨eqLb z m, g2, by show z.length < _; omega⟩, ⟨_, rfl⟩, ?_⟩
  exact fin z m (by rw [g3]; unfold sumS; rw [if_pos h])
 ·have h : ¬ m = n := by simpa using h
  rintro _ rfl
  simp only
  refine ⟨fun g => ?_, fun g => ?_⟩
  ·have g : Ten.val y ≤ Ten.val x := uL.1 (of_decide_eq_true g)
   refine ⟨(x, y), ⟨eqL2 x y, a2, b2, by show x.length < _; omega, g⟩, yq a2 g, ?_⟩
   rintro z ⟨g1, g2, g3⟩
   simp only at g1 g3
   refine ⟨(z, m), ⟨eqLb z m, g2, by show z.length < _; omega⟩, ⟨_, rfl⟩, ?_⟩
   exact fin z m (by unfold sumS; rw [if_neg h, if_pos g]; congr 1; omega)
  ·have g : ¬ Ten.val y ≤ Ten.val x := fun h3 => of_decide_eq_false g (uL.2 h3)
   refine ⟨(y, x), ⟨eqL2 y x, b2, a2, by show y.length < _; omega, by show Ten.val x ≤ Ten.val y; omega⟩, yq b2 (by show Ten.val x ≤ Ten.val y; omega), ?_⟩
   rintro z ⟨g1, g2, g3⟩
   simp only at g1 g3
   refine ⟨(z, n), ⟨eqLb z n, g2, by show z.length < _; omega⟩, ⟨_, rfl⟩, ?_⟩
   exact fin z n (by unfold sumS; rw [if_neg h, if_neg g]; congr 1; omega)
theorem Um {s : List UInt8} (h : errI s = 0) : 0 < (dg (parse s).2).length := by
 obtain ⟨_, _, h3, _⟩ := kQ h
 rw [kp]
 exact List.length_pos_iff.2 h3
theorem X3 : zg Tryz.prog 68 UC := by
 refine zi (fn := Tryz.f68) (c := Tryz.f68.body.getD .skip) rfl rfl rfl fun p hp O w0 Q hq => ?_
 obtain ⟨s, t⟩ := p
 obtain ⟨hs, ht⟩ := hp
 replace hq := hq _ rfl
 simp only at hs ht hq
 refine zd.run hmix Ki [] 400 (T := .ex (fun (x : List UInt8 × List UInt8) => eqL [AV.str s, AV.str t] [AV.str x.1, AV.str x.2] ∧ x.1.length < 1099511627776 ∧ x.2.length < 1099511627776) fun n => .all (fun (r : Int) => r = zq n.1 n.2) fun n => .ite (!decide (n = 0)) (.leaf (.ret [.str (Array.toList #[]), .int .i64 n] [])) (.ex (fun (x : List UInt8) => eqL [AV.str s] [AV.str x] ∧ x.length < 1099511627776) fun n => .all (fun (r : List Nat × Bool × Bool) => r = digR n) fun n => .ex (fun (x : List UInt8) => eqL [AV.str t] [AV.str x] ∧ x.length < 1099511627776) fun n_1 => .all (fun (r : List Nat × Bool × Bool) => r = digR n_1) fun n_2 => .ex (fun (x : List Nat × List Nat) => eqL [AV.sl n.1.length 1 (natG .i64 n.1), AV.sl n_2.1.length 1 (natG .i64 n_2.1)] [AV.sl x.1.length 1 (natG .i64 x.1), AV.sl x.2.length 1 (natG .i64 x.2)] ∧ Ten.dig x.1 ∧ Ten.dig x.2 ∧ 0 < x.1.length ∧ 0 < x.2.length ∧ x.1.length < 1073741824 ∧ x.2.length < 1073741824) fun n_3 => .all (JJ n_3) fun n_4 => .ex (fun (x : List Nat × Bool) => eqL [AV.sl n_4.length 1 (natG .i64 n_4), AV.bool !Prod.fst n.2 == n_2.2.1] [AV.sl x.1.length 1 (natG .i64 x.1), AV.bool x.2] ∧ Ten.dig x.1 ∧ x.1.length < 2147483648) fun n => .all (fun (r : List UInt8 × Int) => r = wr n.2 (Ten.val n.1)) fun n => .leaf (.ret [.str n.1, .int .i64 n.2] []))) (by kernel_rfl) ?_
 simp only [Tree.holds, ze]
 refine ⟨(s, t), ⟨by simp, hs, ht⟩, ⟨_, rfl⟩, ?_⟩
 rintro _ rfl
 simp only
 refine ⟨fun he => ?_, fun he => ?_⟩
 ·have he : zq s t ≠ 0 := by
   intro h; simp [h] at he
  have e : mulI s t = ([], zq s t) := if_neg he
  rw [e] at hq
  exact RetR.scal hq rfl (by simp [resV])
 have he : zq s t = 0 := by
  refine Decidable.byContradiction fun h => ?_
  simp [h] at he
 obtain ⟨h1, h2⟩ := zk.1 he
 have e : mulI s t = wr (negI s != negI t) (numI s * numI t) := if_pos he
 rw [e] at hq
 refine ⟨s, ⟨by simp, hs⟩, ⟨_, rfl⟩, ?_⟩
 rintro _ rfl
 refine ⟨t, ⟨by simp, ht⟩, ⟨_, rfl⟩, ?_⟩
 rintro _ rfl
 obtain ⟨a1, a2, a3, a4⟩ := wB h1
 obtain ⟨b1, b2, b3, b4⟩ := wB h2
 have a5 := Um h1
 have b5 := Um h2
 rw [a1, b1]
 have ea : (parse s).1 = negI s := rfl
 have eb : (parse t).1 = negI t := rfl
 simp only [ea, eb]
 rw [← a4, ← b4] at hq
 generalize dg (parse s).2 = x at *
 generalize dg (parse t).2 = y at *
 refine ⟨(x, y), ⟨eqL2 x y, a2, b2, a5, b5, by show x.length < _; omega, by show y.length < _; omega⟩, zan a2 b2, ?_⟩
 rintro z ⟨g1, g2, g3⟩
 simp only at g1 g3
 refine ⟨(z, negI s != negI t), ⟨eqLb z _, g2, by show z.length < _; omega⟩, ⟨_, rfl⟩, ?_⟩
 rintro _ rfl
 rw [← g3] at hq
 exact RetR.scal hq rfl (by simp [resV])
theorem zff : zg Tryz.prog 103 rdmC := by
 refine zi (fn := Tryz.f103) (c := Tryz.f103.body.getD .skip) rfl rfl rfl fun p hp O w0 Q hq => ?_
 obtain ⟨s, t⟩ := p
 obtain ⟨hs, ht⟩ := hp
 replace hq := hq _ rfl
 simp only at hs ht hq
 refine zd.run hmix Ki [] 400 (T := .ex (fun (x : List UInt8 × List UInt8) => eqL [AV.str s, AV.str t] [AV.str x.1, AV.str x.2] ∧ x.1.length < 1099511627776 ∧ x.2.length < 1099511627776) fun n => .all (fun (r : Int) => r = zq n.1 n.2) fun n => .ite (!decide (n = 0)) (.leaf (.ret [.str (Array.toList #[]), .str (Array.toList #[]), .int .i64 n] [])) (.ex (fun (x : List UInt8) => eqL [AV.str s] [AV.str x] ∧ x.length < 1099511627776) fun n => .all (fun (r : List Nat × Bool × Bool) => r = digR n) fun n => .ex (fun (x : List UInt8) => eqL [AV.str t] [AV.str x] ∧ x.length < 1099511627776) fun n_1 => .all (fun (r : List Nat × Bool × Bool) => r = digR n_1) fun n_2 => .ex (fun (x : List Nat) => eqL [AV.sl n_2.1.length 1 (natG .i64 n_2.1)] [AV.sl x.length 1 (natG .i64 x)] ∧ Ten.dig x ∧ x.length < 4611686018427387904) fun n_3 => .all (fun (r : Bool) => r = decide (Ten.val n_3 = 0)) fun n_4 => .ite n_4 (.leaf (.ret [.str (Array.toList #[]), .str (Array.toList #[]), .int .i64 16] [])) (.ex (fun (x : List Nat × List Nat) => eqL [AV.sl n.1.length 1 (natG .i64 n.1), AV.sl n_2.1.length 1 (natG .i64 n_2.1)] [AV.sl x.1.length 1 (natG .i64 x.1), AV.sl x.2.length 1 (natG .i64 x.2)] ∧ Ten.dig x.1 ∧ Ten.dig x.2 ∧ x.1.length < 274877906944 ∧ x.2.length < 274877906944 ∧ 0 < Ten.val x.2) fun n_5 => .all (fun (r : List Nat × List Nat) => r.1.length = n_5.1.length ∧ Ten.dig r.1 ∧ Ten.val r.1 = Ten.val n_5.1 / Ten.val n_5.2 ∧ r.2.length ≤ n_5.1.length ∧ Ten.dig r.2 ∧ Ten.val r.2 = Ten.val n_5.1 % Ten.val n_5.2) fun n_6 => .ex (fun (x : List Nat) => n.2.1 = true → eqL [AV.sl n_6.2.length 1 (natG .i64 n_6.2)] [AV.sl x.length 1 (natG .i64 x)] ∧ Ten.dig x ∧ x.length < 4611686018427387904) fun n_7 => .all (fun (x : Bool) => n.2.1 = true → x = decide (Ten.val n_7 = 0)) fun n_8 => .ite (bif n.2.1 then !n_8 else false) (.ex (fun (x : List Nat × List Nat) => eqL [AV.sl n_6.1.length 1 (natG .i64 n_6.1), AV.sl 1 1 (zj (zf 1 [AV.int .i64 1]) 0)] [AV.sl x.1.length 1 (natG .i64 x.1), AV.sl x.2.length 1 (natG .i64 x.2)] ∧ Ten.dig x.1 ∧ Ten.dig x.2 ∧ x.1.length < 1073741824 ∧ x.2.length < 1073741824) fun n_9 => .all (X0 n_9) fun n_10 => .ex (fun (x : List Nat × List Nat) => eqL [AV.sl n_2.1.length 1 (natG .i64 n_2.1), AV.sl n_6.2.length 1 (natG .i64 n_6.2)] [AV.sl x.1.length 1 (natG .i64 x.1), AV.sl x.2.length 1 (natG .i64 x.2)] ∧ Ten.dig x.1 ∧ Ten.dig x.2 ∧ x.1.length < 1099511627776 ∧ Ten.val x.2 ≤ Ten.val x.1) fun n_11 => .all (fun (r : List Nat) => r.length = n_11.1.length ∧ Ten.dig r ∧ Ten.val r + Ten.val n_11.2 = Ten.val n_11.1) fun n_12 => .ex (fun (x : List Nat × Bool) => eqL [AV.sl n_10.length 1 (natG .i64 n_10), AV.bool !Prod.fst n.2 == n_2.2.1] [AV.sl x.1.length 1 (natG .i64 x.1), AV.bool x.2] ∧ Ten.dig x.1 ∧ x.1.length < 1099511627776) fun n => .all (fun (r : List UInt8) => r = qF n.2 (Ten.val n.1)) fun n => .ex (fun (x : List Nat × Bool) => eqL [AV.sl n_12.length 1 (natG .i64 n_12), AV.bool false] [AV.sl x.1.length 1 (natG .i64 x.1), AV.bool x.2] ∧ Ten.dig x.1 ∧ x.1.length < 1099511627776) fun n_13 => .all (fun (r : List UInt8) => r = qF n_13.2 (Ten.val n_13.1)) fun n_14 => .leaf (.ret [.str n, .str n_14, .int .i64 0] [.arr 1 1 (zf 1 [.int .i64 1])])) (.ex (fun (x : List Nat × Bool) => eqL [AV.sl n_6.1.length 1 (natG .i64 n_6.1), AV.bool !Prod.fst n.2 == n_2.2.1] [AV.sl x.1.length 1 (natG .i64 x.1), AV.bool x.2] ∧ Ten.dig x.1 ∧ x.1.length < 1099511627776) fun n => .all (fun (r : List UInt8) => r = qF n.2 (Ten.val n.1)) fun n => .ex (fun (x : List Nat × Bool) => eqL [AV.sl n_6.2.length 1 (natG .i64 n_6.2), AV.bool false] [AV.sl x.1.length 1 (natG .i64 x.1), AV.bool x.2] ∧ Ten.dig x.1 ∧ x.1.length < 1099511627776) fun n_9 => .all (fun (r : List UInt8) => r = qF n_9.2 (Ten.val n_9.1)) fun n_10 => .leaf (.ret [.str n, .str n_10, .int .i64 0] []))))) (by kernel_rfl) ?_
 simp only [Tree.holds, ze]
 refine ⟨(s, t), ⟨by simp, hs, ht⟩, ⟨_, rfl⟩, ?_⟩
 rintro _ rfl
 simp only
 refine ⟨fun he => ?_, fun he => ?_⟩
 ·have he : zq s t ≠ 0 := by
   intro h; simp [h] at he
  have e : dmI s t = ([], [], zq s t) := if_pos he
  rw [e] at hq
  exact RetR.scal hq rfl (by simp [resV])
 have he : zq s t = 0 := by
  refine Decidable.byContradiction fun h => ?_
  simp [h] at he
 obtain ⟨h1, h2⟩ := zk.1 he
 refine ⟨s, ⟨by simp, hs⟩, ⟨_, rfl⟩, ?_⟩
 rintro _ rfl
 refine ⟨t, ⟨by simp, ht⟩, ⟨_, rfl⟩, ?_⟩
 rintro _ rfl
 obtain ⟨a1, a2, a3, a4⟩ := wB h1
 obtain ⟨b1, b2, b3, b4⟩ := wB h2
 rw [a1, b1]
 have ea : (parse s).1 = negI s := rfl
 have eb : (parse t).1 = negI t := rfl
 simp only [ea, eb]
 generalize dg (parse s).2 = x at *
 generalize dg (parse t).2 = y at *
 refine ⟨y, ⟨⟨⟨rfl, rfl, zc _ _ _⟩, trivial⟩, b2, by omega⟩, ⟨_, rfl⟩, ?_⟩
 rintro _ rfl
 refine ⟨fun h0 => ?_, fun h0 => ?_⟩
 ·have h0 : Ten.val y = 0 := of_decide_eq_true h0
  have e : dmI s t = ([], [], 16) := by rw [dmI, if_neg (by rw [he]; decide), if_pos (by rw [← b4]; exact h0)]
  rw [e] at hq
  exact RetR.scal hq rfl (by simp [resV])
 have h0 : Ten.val y ≠ 0 := of_decide_eq_false h0
 have h0' : numI t ≠ 0 := by rw [← b4]; exact h0
 have e : dmI s t = ((wr (negI s != negI t) (dmQ s t)).1, (wr false (dmM s t)).1, 0) := by rw [dmI, if_neg (by rw [he]; decide), if_neg h0']
 rw [e] at hq
 have rq := Vw h1 h0'
 have rm := WS (s := s) h2 h0'
 have hlt := Nat.mod_lt (Ten.val x) (Nat.pos_of_ne_zero h0)
 have hex : ∃ r, Yf (x, y) r := by
  obtain ⟨g1, g2, g3⟩ := uT a2 (Nat.div_le_self (Ten.val x) (Ten.val y))
  obtain ⟨g4, g5, g6⟩ := uT a2 (Nat.mod_le (Ten.val x) (Ten.val y))
  exact ⟨(_, _), g1, g2, g3, Nat.le_of_eq g4, g5, g6⟩
 refine ⟨(x, y), ⟨eqL2 x y, a2, b2, by show x.length < _; omega, by show y.length < _; omega, Nat.pos_of_ne_zero h0⟩, hex, ?_⟩
 rintro ⟨q, r⟩ ⟨g1, g2, g3, g4, g5, g6⟩
 simp only at g1 g2 g3 g4 g5 g6
 have fin : ∀ u v : List Nat, Ten.val u = dmQ s t → Ten.val v = dmM s t → ∀ U V : List UInt8, U = qF (negI s != negI t) (Ten.val u) → V = qF false (Ten.val v) → ∀ h : Heap, RetR rdmC 0 Q [.str U, .str V, .int .i64 0] h := by
  rintro u v hu hv _ _ rfl rfl h
  rw [← hu] at hq rq
  rw [← hv] at hq rm
  rw [← yK rq, ← yK rm] at hq
  exact RetR.scal hq rfl (by simp [resV])
 have hq1 : Ten.val q = numI s / numI t := by rw [g3, a4, b4]
 have hr1 : Ten.val r = numI s % numI t := by rw [g6, a4, b4]
 refine ⟨r, fun _ => ⟨⟨⟨rfl, rfl, zc _ _ _⟩, trivial⟩, g5, by omega⟩, ⟨_, fun _ => rfl⟩, ?_⟩
 intro z hz
 refine ⟨fun hc => ?_, fun hc => ?_⟩
 ·have hm : negI s = true := by
   cases hn : negI s with
   | true => rfl
   | false => rw [hn] at hc; cases hc
  have hz := hz hm
  rw [hm] at hc
  have hc : z = false := by simpa using hc
  rw [hc] at hz
  have hr0 : Ten.val r ≠ 0 := of_decide_eq_false hz.symm
  have hcond : negI s = true ∧ 0 < numI s % numI t := ⟨hm, by omega⟩
  have eQ : dmQ s t = numI s / numI t + 1 := if_pos hcond
  have eM : dmM s t = numI t - numI s % numI t := if_pos hcond
  have h1d : Ten.dig [1] := fun d hd => by
   have : d = 1 := by simpa using hd
   rw [this]; decide
  refine ⟨(q, [1]), ⟨⟨⟨rfl, rfl, zc _ _ _⟩, ⟨rfl, rfl, ?_⟩, trivial⟩, g2, h1d, by show q.length < _; omega, by show 1 < 1073741824; decide⟩, XD g2 h1d, ?_⟩
  ·intro j o hj ho
   have : j = 0 := by omega
   subst this
   have : o = 0 := by omega
   subst this
   rfl
  rintro u ⟨u1, u2, u3⟩
  simp only at u1 u3
  have hle : Ten.val r ≤ Ten.val y := by omega
  refine ⟨(y, r), ⟨eqL2 y r, b2, g5, by show y.length < _; omega, hle⟩, yq b2 hle, ?_⟩
  rintro v ⟨v1, v2, v3⟩
  simp only at v1 v3
  have hone : Ten.val [1] = 1 := rfl
  refine ⟨(u, negI s != negI t), ⟨eqLb u _, u2, by simp only [u1]; show max q.length 1 + 1 < _; omega⟩, ⟨_, rfl⟩, ?_⟩
  intro U hU
  refine ⟨(v, false), ⟨eqLb v _, v2, by simp only; omega⟩, ⟨_, rfl⟩, ?_⟩
  intro V hV
  exact fin u v (by rw [u3, hone, hq1, eQ]) (by rw [eM]; omega) U V hU hV _
 ·have hcond : ¬ (negI s = true ∧ 0 < numI s % numI t) := by
   rintro ⟨hm, h5⟩
   have hz := hz hm
   rw [hm] at hc
   have hc : z = true := by simpa using hc
   rw [hc] at hz
   have : Ten.val r = 0 := of_decide_eq_true hz.symm
   omega
  have eQ : dmQ s t = numI s / numI t := if_neg hcond
  have eM : dmM s t = numI s % numI t := if_neg hcond
  refine ⟨(q, negI s != negI t), ⟨eqLb q _, g2, by simp only; omega⟩, ⟨_, rfl⟩, ?_⟩
  intro U hU
  refine ⟨(r, false), ⟨eqLb r _, g5, by simp only; omega⟩, ⟨_, rfl⟩, ?_⟩
  intro V hV
  exact fin q r (by rw [hq1, eQ]) (by rw [hr1, eM]) U V hU hV _
end Go.Proofs.Tryz
end

/- The reference's rationals. -/
section
set_option maxRecDepth 100000
open Go Go.Sx Go.Proofs Go.Nov
namespace Go.Proofs.Tryz
attribute [local simp] eqKV eqA eqA0 eqH eqB eqL eqL0
def Wn : Ctr := ctrP true (fun p : List UInt8 × List UInt8 => [.str p.1, .str p.2]) (fun p => p.1.length < 2 ^ 40 ∧ p.2.length < 2 ^ 40) (fun p r => r = qJ p.1 p.2) (fun _ r => (.tup [.str r.1, .int .i64 r.2], []))
noncomputable def GRm : Nat → Option Ctr := fun f => if f = 85 then some (Xg) else if f = 102 then some (zdz) else if f = 64 then some (zad) else if f = 103 then some (rdmC) else none
theorem zf7 : ∀ g c, GRm g = some c → zg Tryz.prog g c := okIf Jq (okIf zda (okIf Xt (okIf zff (zp))))
theorem zbw (z : Int) : (wz z).1.length ≤ 1001 := jP _ _
theorem zc0 : zg Tryz.prog 94 Wn := by
 refine zi (fn := Tryz.f94) (c := Tryz.f94.body.getD .skip) rfl rfl rfl fun p hp O w0 Q hq => ?_
 obtain ⟨s, t⟩ := p
 obtain ⟨hs, ht⟩ := hp
 replace hq := hq _ rfl
 simp only at hs ht hq
 refine zd.run hmix zf7 [] 400 (T := .ex (fun (x : List UInt8 × List UInt8) => eqL [AV.str s, AV.str t] [AV.str x.1, AV.str x.2] ∧ x.1.length < 1099511627776 ∧ x.2.length < 1099511627776) fun n => .all (fun (r : Int) => r = zq n.1 n.2) fun n => .ite (!decide (n = 0)) (.leaf (.ret [.str (Array.toList #[]), .int .i64 n] [])) (.ite (decide (t = Array.toList #[(48 : UInt8)])) (.leaf (.ret [.str (Array.toList #[]), .int .i64 16] [])) (.side ((0 : Int) ≤ 0 ∧ (0 : Int) < t.length) (.ite (decide ((↑(UInt8.toNat (List.getD t 0 (0 : UInt8))) : Int) = 45)) (.ex (fun (x : List UInt8) => eqL [AV.str s] [AV.str x] ∧ errI x = 0 ∧ x.length < 1099511627776) fun n => .all (fun (r : List UInt8) => r = Prod.fst (wz (-zI n))) fun n => .ex (fun (x : List UInt8) => eqL [AV.str t] [AV.str x] ∧ errI x = 0 ∧ x.length < 1099511627776) fun n_1 => .all (fun (r : List UInt8) => r = Prod.fst (wz (-zI n_1))) fun n_2 => .ex (fun (x : List UInt8 × List UInt8) => eqL [AV.str n, AV.str n_2] [AV.str x.1, AV.str x.2] ∧ x.1.length < 1099511627776 ∧ x.2.length < 1099511627776) fun n_3 => .all (fun (r : List UInt8 × Int) => r = gcdR n_3.1 n_3.2) fun n_4 => .ex (fun (x : List UInt8 × List UInt8) => eqL [AV.str n, AV.str n_4.1] [AV.str x.1, AV.str x.2] ∧ x.1.length < 1099511627776 ∧ x.2.length < 1099511627776) fun n => .all (fun (r : List UInt8 × List UInt8 × Int) => r = dmI n.1 n.2) fun n => .ex (fun (x : List UInt8 × List UInt8) => eqL [AV.str n_2, AV.str n_4.1] [AV.str x.1, AV.str x.2] ∧ x.1.length < 1099511627776 ∧ x.2.length < 1099511627776) fun n_5 => .all (fun (r : List UInt8 × List UInt8 × Int) => r = dmI n_5.1 n_5.2) fun n_6 => .ite (decide (n_6.1 = Array.toList #[(49 : UInt8)])) (.leaf (.ret [.str n.1, .int .i64 0] [])) (.side (n.1.length + 1 ≤ 9223372036854775807) (.side (List.length (n.1 ++ Array.toList #[(47 : UInt8)]) + n_6.1.length ≤ 9223372036854775807) (.leaf (.ret [.str (n.1 ++ Array.toList #[(47 : UInt8)] ++ n_6.1), .int .i64 0] []))))) (.ex (fun (x : List UInt8 × List UInt8) => eqL [AV.str s, AV.str t] [AV.str x.1, AV.str x.2] ∧ x.1.length < 1099511627776 ∧ x.2.length < 1099511627776) fun n => .all (fun (r : List UInt8 × Int) => r = gcdR n.1 n.2) fun n => .ex (fun (x : List UInt8 × List UInt8) => eqL [AV.str s, AV.str n.1] [AV.str x.1, AV.str x.2] ∧ x.1.length < 1099511627776 ∧ x.2.length < 1099511627776) fun n_1 => .all (fun (r : List UInt8 × List UInt8 × Int) => r = dmI n_1.1 n_1.2) fun n_2 => .ex (fun (x : List UInt8 × List UInt8) => eqL [AV.str t, AV.str n.1] [AV.str x.1, AV.str x.2] ∧ x.1.length < 1099511627776 ∧ x.2.length < 1099511627776) fun n => .all (fun (r : List UInt8 × List UInt8 × Int) => r = dmI n.1 n.2) fun n => .ite (decide (n.1 = Array.toList #[(49 : UInt8)])) (.leaf (.ret [.str n_2.1, .int .i64 0] [])) (.side (n_2.1.length + 1 ≤ 9223372036854775807) (.side (List.length (n_2.1 ++ Array.toList #[(47 : UInt8)]) + n.1.length ≤ 9223372036854775807) (.leaf (.ret [.str (n_2.1 ++ Array.toList #[(47 : UInt8)] ++ n.1), .int .i64 0] []))))))))) (by kernel_rfl) ?_
 simp only [Tree.holds, ze, inR, lo, hi, Int.toNat_natCast]
 refine ⟨(s, t), ⟨by simp, hs, ht⟩, ⟨_, rfl⟩, ?_⟩
 rintro _ rfl
 simp only
 refine ⟨fun he => ?_, fun he => ?_⟩
 ·have he : zq s t ≠ 0 := by
   intro h; simp [h] at he
  have e : qJ s t = ([], zq s t) := if_pos he
  rw [e] at hq
  exact RetR.scal hq rfl (by simp [resV])
 have he : zq s t = 0 := by
  refine Decidable.byContradiction fun h => ?_
  simp [h] at he
 obtain ⟨h1, h2⟩ := zk.1 he
 refine ⟨fun h0 => ?_, fun h0 => ?_⟩
 ·have h0 : t = [48] := by simpa using h0
  have e : qJ s t = ([], 16) := by rw [qJ, if_neg (by rw [he]; decide), if_pos ((wY h2).1 h0)]
  rw [e] at hq
  exact RetR.scal hq rfl (by simp [resV])
 have ht0 : t ≠ [48] := fun h => of_decide_eq_false h0 h
 have hn0 : numI t ≠ 0 := fun h => ht0 ((wY h2).2 h)
 have htn : t ≠ [] := by rintro rfl; simp [ZV] at h2
 have hneg := yY htn
 have e : qJ s t = (Q8 (negI s != negI t) (numI s) (numI t), 0) := by rw [qJ, if_neg (by rw [he]; decide), if_neg hn0]
 rw [e, Q8] at hq
 obtain ⟨g0, gr⟩ := Z3 (s := s) h2 hn0
 have ds : Nat.gcd (numI s) (numI t) ∣ numI s := Nat.gcd_dvd_left _ _
 have dt : Nat.gcd (numI s) (numI t) ∣ numI t := Nat.gcd_dvd_right _ _
 have fin : ∀ u v : List UInt8, errI u = 0 → errI v = 0 → numI u = numI s → numI v = numI t → negI v = false → (numI s ≠ 0 → negI u = (negI s != negI t)) → u.length < 2 ^ 40 → v.length < 2 ^ 40 →
   ∃ n : List UInt8 × List UInt8, (eqL [AV.str u, AV.str v] [AV.str n.1, AV.str n.2] ∧ n.1.length < 1099511627776 ∧ n.2.length < 1099511627776) ∧ (∃ r, r = gcdR n.1 n.2) ∧ ∀ r : List UInt8 × Int, r = gcdR n.1 n.2 →
    ∃ n : List UInt8 × List UInt8, (eqL [AV.str u, AV.str r.1] [AV.str n.1, AV.str n.2] ∧ n.1.length < 1099511627776 ∧ n.2.length < 1099511627776) ∧ (∃ r, r = dmI n.1 n.2) ∧ ∀ z : List UInt8 × List UInt8 × Int, z = dmI n.1 n.2 →
     ∃ n : List UInt8 × List UInt8, (eqL [AV.str v, AV.str r.1] [AV.str n.1, AV.str n.2] ∧ n.1.length < 1099511627776 ∧ n.2.length < 1099511627776) ∧ (∃ r, r = dmI n.1 n.2) ∧ ∀ w : List UInt8 × List UInt8 × Int, w = dmI n.1 n.2 →
      (decide (w.1 = [49]) = true → RetR Wn 0 Q [.str z.1, .int .i64 0] []) ∧ (decide (w.1 = [49]) = false → z.1.length + 1 ≤ 9223372036854775807 ∧ (z.1.length + 1 ≤ 9223372036854775807 → (z.1 ++ [47]).length + w.1.length ≤ 9223372036854775807 ∧ ((z.1 ++ [47]).length + w.1.length ≤ 9223372036854775807 → RetR Wn 0 Q [.str (z.1 ++ [47] ++ w.1), .int .i64 0] []))) := by
  intro u v eu ev nu nv sv su lu lv
  refine ⟨(u, v), ⟨⟨rfl, rfl, trivial⟩, by simpa using lu, by simpa using lv⟩, ⟨_, rfl⟩, ?_⟩
  rintro _ rfl
  have eg : gcdR u v = wr false (Nat.gcd (numI s) (numI t)) := by rw [gcdR, if_pos (zk.2 ⟨eu, ev⟩), nu, nv]
  rw [eg]
  generalize Nat.gcd (numI s) (numI t) = g at *
  have l1 := jP false g
  refine ⟨(u, (wr false g).1), ⟨⟨rfl, rfl, trivial⟩, by simpa using lu, by simp only; omega⟩, ⟨_, rfl⟩, ?_⟩
  rintro _ rfl
  refine ⟨(v, (wr false g).1), ⟨⟨rfl, rfl, trivial⟩, by simpa using lv, by simp only; omega⟩, ⟨_, rfl⟩, ?_⟩
  rintro _ rfl
  rw [y9 eu g0 gr (by rw [nu]; exact ds), y9 ev g0 gr (by rw [nv]; exact dt), nu, nv, sv]
  simp only
  have hb : (negI u != false) = negI u := by cases negI u <;> rfl
  have hb2 : (false != false) = false := rfl
  rw [hb, hb2]
  have hw : wr (negI u) (numI s / g) = wr (negI s != negI t) (numI s / g) := Wg fun h => su fun h5 => h (by rw [h5, Nat.zero_div])
  rw [hw]
  have rt := room_le (Nat.div_le_self (numI t) g) (qU h2)
  have k1 := jP (negI s != negI t) (numI s / g)
  have k2 := jP false (numI t / g)
  refine ⟨fun h => ?_, fun h => ⟨by omega, fun _ => ⟨by simp <;> omega, fun _ => ?_⟩⟩⟩
  ·have h1 := (Z6 rt).1 (of_decide_eq_true h)
   rw [if_pos h1] at hq
   exact RetR.scal hq rfl (by simp [resV])
  ·have h1 : ¬ numI t / g = 1 := fun h1 => of_decide_eq_false h ((Z6 rt).2 h1)
   rw [if_neg h1] at hq
   exact RetR.scal hq rfl (by simp [resV])
 have lt0 := List.length_pos_iff.2 htn
 refine ⟨⟨by omega, by omega⟩, fun _ => ⟨fun hb => ?_, fun hb => ?_⟩⟩
 ·have hn : negI t = true := by
   rw [hneg, decide_eq_true_eq]
   exact yr (of_decide_eq_true hb)
  refine ⟨s, ⟨by simp, h1, hs⟩, ⟨_, rfl⟩, ?_⟩
  rintro _ rfl
  refine ⟨t, ⟨by simp, h2, ht⟩, ⟨_, rfl⟩, ?_⟩
  rintro _ rfl
  have zs : (wz (-zI s)).2 = 0 := by rw [j2, vz h1]
  have zt : (wz (-zI t)).2 = 0 := by rw [j2, vz h2]
  have ws := zbw (-zI s)
  have wt := zbw (-zI t)
  have es := wu zs
  have et := wu zt
  refine fin _ _ es et (by rw [← qE, jt zs, Int.natAbs_neg, qE]) (by rw [← qE, jt zt, Int.natAbs_neg, qE]) ?_ (fun h => ?_) (by omega) (by omega)
  ·rw [xi et, jt zt]
   have : zI t < 0 := by have := xi h2; rw [hn] at this; exact of_decide_eq_true this.symm
   exact decide_eq_false (by omega)
  ·rw [xi es, jt zs, hn]
   have ha := qE s
   have hs2 := xi h1
   cases hm : negI s with
   | true => rw [hm] at hs2; have := of_decide_eq_true hs2.symm; exact decide_eq_false (by omega)
   | false => rw [hm] at hs2; have := of_decide_eq_false hs2.symm; exact decide_eq_true (by omega)
 ·have hn : negI t = false := by
   rw [hneg, decide_eq_false_iff_not]
   intro h
   apply of_decide_eq_false hb
   rw [h]; rfl
  exact fin s t h1 h2 rfl rfl hn (fun _ => by rw [hn]; cases negI s <;> rfl) hs ht
structure Q4 where
 n : List UInt8
 d : List UInt8
 m : List UInt8
 c : List UInt8
 e : Int
def kC (a b : List UInt8) : Q4 := if zW a b ≠ 0 then ⟨[], [], [], [], zW a b⟩ else ⟨numR a, denR a, numR b, denR b, 0⟩
def JZ : Ctr := ctrP true (fun p : List UInt8 × List UInt8 => [.str p.1, .str p.2]) (fun p => p.1.length < 2 ^ 40 ∧ p.2.length < 2 ^ 40) (fun p r => r = kC p.1 p.2) (fun _ (r : Q4) => (.tup [.str r.n, .str r.d, .str r.m, .str r.c, .int .i64 r.e], []))
noncomputable def GRf : Nat → Option Ctr := fun f => if f = 41 then some (xc) else if f = 61 then some (ZJ) else none
theorem zev : ∀ g c, GRf g = some c → zg Tryz.prog g c := okIf k8 (okIf ZK (zp))
theorem ZY : zg Tryz.prog 66 JZ := by
 refine zi (fn := Tryz.f66) (c := Tryz.f66.body.getD .skip) rfl rfl rfl fun p hp O w0 Q hq => ?_
 obtain ⟨a, b⟩ := p
 obtain ⟨ha, hb⟩ := hp
 replace hq := hq _ rfl
 simp only at ha hb hq
 unfold kC zW at hq
 refine zd.run hmix zev [] 400 (T := .ex (fun (x : List UInt8) => eqL [AV.str a] [AV.str x] ∧ x.length < 1099511627776) fun n => .all (fun (r : Int) => r = errR n) fun n => .ite (!decide (n = 0)) (.ex (fun (x : List UInt8) => eqL [AV.str a] [AV.str x] ∧ x.length < 1099511627776) fun n => .all (fun (r : Int) => r = errR n) fun n => .leaf (.ret [.str (Array.toList #[]), .str (Array.toList #[]), .str (Array.toList #[]), .str (Array.toList #[]), .int .i64 n] [])) (.ex (fun (x : List UInt8) => eqL [AV.str b] [AV.str x] ∧ x.length < 1099511627776) fun n => .all (fun (r : Int) => r = errR n) fun n => .ite (!decide (n = 0)) (.ex (fun (x : List UInt8) => eqL [AV.str b] [AV.str x] ∧ x.length < 1099511627776) fun n => .all (fun (r : Int) => r = errR n) fun n => .leaf (.ret [.str (Array.toList #[]), .str (Array.toList #[]), .str (Array.toList #[]), .str (Array.toList #[]), .int .i64 n] [])) (.ex (fun (x : List UInt8) => eqL [AV.str a] [AV.str x] ∧ x.length < 4611686018427387904) fun n => .all (fun (r : List UInt8 × List UInt8) => r = (Prod.fst (cutR n), if Prod.snd (Prod.snd (cutR n)) = true then Prod.fst (Prod.snd (cutR n)) else [(49 : UInt8)])) fun n => .ex (fun (x : List UInt8) => eqL [AV.str b] [AV.str x] ∧ x.length < 4611686018427387904) fun n_1 => .all (fun (r : List UInt8 × List UInt8) => r = (Prod.fst (cutR n_1), if Prod.snd (Prod.snd (cutR n_1)) = true then Prod.fst (Prod.snd (cutR n_1)) else [(49 : UInt8)])) fun n_2 => .leaf (.ret [.str n.1, .str n.2, .str n_2.1, .str n_2.2, .int .i64 0] [])))) (by kernel_rfl) ?_
 simp only [Tree.holds, ze]
 refine ⟨a, ⟨by simp, ha⟩, ⟨_, rfl⟩, ?_⟩
 rintro _ rfl
 refine ⟨fun h => ?_, fun h => ⟨b, ⟨by simp, hb⟩, ⟨_, rfl⟩, ?_⟩⟩
 ·have h : errR a ≠ 0 := by simpa using h
  rw [if_neg h, if_pos h] at hq
  refine ⟨a, ⟨by simp, ha⟩, ⟨_, rfl⟩, ?_⟩
  rintro _ rfl
  exact RetR.scal hq rfl (by simp [resV])
 ·have h : errR a = 0 := by simpa using h
  rw [if_pos h] at hq
  rintro _ rfl
  refine ⟨fun g => ?_, fun g => ⟨a, ⟨by simp, by show a.length < _; omega⟩, ⟨_, rfl⟩, ?_⟩⟩
  ·have g : errR b ≠ 0 := by simpa using g
   rw [if_pos g] at hq
   refine ⟨b, ⟨by simp, hb⟩, ⟨_, rfl⟩, ?_⟩
   rintro _ rfl
   exact RetR.scal hq rfl (by simp [resV])
  ·have g : errR b = 0 := by simpa using g
   rw [if_neg (by rw [g]; simp)] at hq
   rintro _ rfl
   refine ⟨b, ⟨by simp, by show b.length < _; omega⟩, ⟨_, rfl⟩, ?_⟩
   rintro _ rfl
   exact RetR.scal hq rfl (by simp [resV, numR, denR])
def Wd (a b : List UInt8) : List UInt8 × List UInt8 × Int := if zM a b ≠ 0 then ([], [], zM a b) else ((mulI (numR a) (denR b)).1, (mulI (numR b) (denR a)).1, 0)
def Xe : Ctr := ctrP true (fun p : List UInt8 × List UInt8 => [.str p.1, .str p.2]) (fun p => p.1.length < 2 ^ 39 ∧ p.2.length < 2 ^ 39) (fun p r => r = Wd p.1 p.2) (fun _ r => (.tup [.str r.1, .str r.2.1, .int .i64 r.2.2], []))
noncomputable def GRc : Nat → Option Ctr := fun f => if f = 66 then some (JZ) else if f = 68 then some (UC) else none
theorem zec : ∀ g c, GRc g = some c → zg Tryz.prog g c := okIf ZY (okIf X3 (zp))
theorem Y8 : zg Tryz.prog 65 Xe := by
 refine zi (fn := Tryz.f65) (c := Tryz.f65.body.getD .skip) rfl rfl rfl fun p hp O w0 Q hq => ?_
 obtain ⟨a, b⟩ := p
 obtain ⟨ha, hb⟩ := hp
 replace hq := hq _ rfl
 simp only at ha hb hq
 have ea : zM a b = if zW a b ≠ 0 then zW a b else if (mulI (numR a) (denR b)).2 ≠ 0 ∨ (mulI (numR b) (denR a)).2 ≠ 0 then 14 else 0 := rfl
 unfold Wd at hq
 refine zd.run hmix zec [] 400 (T := .ex (fun (x : List UInt8 × List UInt8) => eqL [AV.str a, AV.str b] [AV.str x.1, AV.str x.2] ∧ x.1.length < 1099511627776 ∧ x.2.length < 1099511627776) fun n => .all (fun (r : Q4) => r = kC n.1 n.2) fun n => .ite (!decide (Q4.e n = 0)) (.leaf (.ret [.str (Array.toList #[]), .str (Array.toList #[]), .int .i64 n.e] [])) (.ex (fun (x : List UInt8 × List UInt8) => eqL [AV.str n.n, AV.str n.c] [AV.str x.1, AV.str x.2] ∧ x.1.length < 1099511627776 ∧ x.2.length < 1099511627776) fun n_1 => .all (fun (r : List UInt8 × Int) => r = mulI n_1.1 n_1.2) fun n_2 => .ex (fun (x : List UInt8 × List UInt8) => eqL [AV.str n.m, AV.str n.d] [AV.str x.1, AV.str x.2] ∧ x.1.length < 1099511627776 ∧ x.2.length < 1099511627776) fun n => .all (fun (r : List UInt8 × Int) => r = mulI n.1 n.2) fun n => .ite (bif !decide (n_2.2 = 0) then true else !decide (n.2 = 0)) (.leaf (.ret [.str (Array.toList #[]), .str (Array.toList #[]), .int .i64 14] [])) (.leaf (.ret [.str n_2.1, .str n.1, .int .i64 0] [])))) (by kernel_rfl) ?_
 simp only [Tree.holds, ze]
 refine ⟨(a, b), ⟨⟨rfl, rfl, trivial⟩, by show a.length < _; omega, by show b.length < _; omega⟩, ⟨_, rfl⟩, ?_⟩
 rintro _ rfl
 simp only [kC]
 by_cases he : zW a b = 0
 ·rw [if_neg (by rw [he]; simp)]
  rw [he, if_neg (by simp)] at ea
  have l1 := wo a
  have l2 := jv a
  have l3 := wo b
  have l4 := jv b
  refine ⟨fun h => (by cases h), fun _ => ?_⟩
  refine ⟨(numR a, denR b), ⟨⟨rfl, rfl, trivial⟩, by simp only; omega, by simp only; omega⟩, ⟨_, rfl⟩, ?_⟩
  rintro _ rfl
  refine ⟨(numR b, denR a), ⟨⟨rfl, rfl, trivial⟩, by simp only; omega, by simp only; omega⟩, ⟨_, rfl⟩, ?_⟩
  rintro _ rfl
  simp only
  by_cases h1 : (mulI (numR a) (denR b)).2 = 0
  ·by_cases h2 : (mulI (numR b) (denR a)).2 = 0
   ·rw [if_neg (by simp [h1, h2])] at ea
    rw [ea, if_neg (by simp)] at hq
    refine ⟨fun h => (by simp [h1, h2] at h), fun _ => RetR.scal hq rfl (by simp [resV])⟩
   ·rw [if_pos (.inr h2)] at ea
    rw [ea, if_pos (by decide)] at hq
    refine ⟨fun _ => RetR.scal hq rfl (by simp [resV]), fun h => (by simp [h1, h2] at h)⟩
  ·rw [if_pos (.inl h1)] at ea
   rw [ea, if_pos (by decide)] at hq
   refine ⟨fun _ => RetR.scal hq rfl (by simp [resV]), fun h => (by simp [h1] at h)⟩
 ·rw [if_pos he]
  rw [if_pos he] at ea
  rw [ea, if_pos he] at hq
  refine ⟨fun _ => RetR.scal hq rfl (by simp [resV]), fun h => (by simp [he] at h)⟩
structure QF where
 n : List UInt8
 d : List UInt8
 e : Int
 f : Int
def za4 : Ctr := ctrP true (fun k : QF => [.str k.n, .str k.d, .int .i64 k.e, .int .i64 k.f]) (fun k => k.n.length < 2 ^ 40 ∧ k.d.length < 2 ^ 40) (fun k r => r = frac (k.n, k.e) (k.d, k.f)) (fun _ r => (.tup [.str r.1, .int .i64 r.2], []))
noncomputable def GRg : Nat → Option Ctr := fun f => if f = 94 then some (Wn) else none
theorem zf9 : ∀ g c, GRg g = some c → zg Tryz.prog g c := okIf zc0 (zp)
theorem YS : zg Tryz.prog 69 za4 := by
 refine zi (fn := Tryz.f69) (c := Tryz.f69.body.getD .skip) rfl rfl rfl fun k hk O w0 Q hq => ?_
 obtain ⟨n, d, e, f⟩ := k
 obtain ⟨hn, hd⟩ := hk
 replace hq := hq _ rfl
 simp only at hn hd hq
 unfold frac at hq
 refine zd.run hmix zf9 [] 400 (T := .ite (bif !decide (e = 0) then true else !decide (f = 0)) (.leaf (.ret [.str (Array.toList #[]), .int .i64 14] [])) (.ex (fun (x : List UInt8 × List UInt8) => eqL [AV.str n, AV.str d] [AV.str x.1, AV.str x.2] ∧ x.1.length < 1099511627776 ∧ x.2.length < 1099511627776) fun n => .all (fun (r : List UInt8 × Int) => r = qJ n.1 n.2) fun n => .leaf (.ret [.str n.1, .int .i64 n.2] []))) (by kernel_rfl) ?_
 simp only [Tree.holds, ze]
 by_cases h : e ≠ 0 ∨ f ≠ 0
 ·rw [if_pos h] at hq
  refine ⟨fun _ => RetR.scal hq rfl (by simp [resV]), fun g => ?_⟩
  exfalso
  by_cases h1 : e = 0
  ·have h2 : f ≠ 0 := h.resolve_left (by simp [h1])
   simp [h1, h2] at g
  ·simp [h1] at g
 ·rw [if_neg h] at hq
  simp only [not_or, Classical.not_not] at h
  refine ⟨fun g => (by simp [h.1, h.2] at g), fun _ => ⟨(n, d), ⟨⟨rfl, rfl, trivial⟩, hn, hd⟩, ⟨_, rfl⟩, ?_⟩⟩
  rintro _ rfl
  exact RetR.scal hq rfl (by simp [resV])
def Kd : Ctr := ctrP true (fun s : List UInt8 => [.str s]) (fun s => 0 < s.length ∧ s.length < 2 ^ 40) (fun s r => r = negS s) (fun _ r => (.str r, []))
theorem V0 : zg Tryz.prog 25 Kd := by
 refine zi (fn := Tryz.f25) (c := Tryz.f25.body.getD .skip) rfl rfl rfl fun s hp O w0 Q hq => ?_
 obtain ⟨h0, hl⟩ := hp
 replace hq := hq _ rfl
 unfold negS at hq
 refine zd.run hmix z3 [] 400 (T := .ite (decide (s = Array.toList #[(48 : UInt8)])) (.leaf (.ret [.str s] [])) (.side ((0 : Int) ≤ 0 ∧ (0 : Int) < s.length) (.ite (decide ((↑(UInt8.toNat (List.getD s 0 (0 : UInt8))) : Int) = 45)) (.side ((0 : Int) ≤ 1 ∧ (1 : Int) ≤ s.length) (.leaf (.ret [.str (List.drop 1 (List.take s.length s))] []))) (.side (1 + s.length ≤ 9223372036854775807) (.leaf (.ret [.str (Array.toList #[(45 : UInt8)] ++ s)] [])))))) (by kernel_rfl) ?_
 simp only [Tree.holds, ze, inR, lo, hi, Int.toNat_natCast]
 refine ⟨fun h => ?_, fun h => ⟨⟨by omega, by omega⟩, fun _ => ⟨fun g => ⟨by omega, fun _ => ?_⟩, fun g => ⟨by show 1 + s.length ≤ _; omega, fun _ => ?_⟩⟩⟩⟩
 ·have h : s = [48] := by simpa using h
  rw [if_pos h] at hq
  exact RetR.scal hq rfl (by simp [resV])
 ·have h : s ≠ [48] := of_decide_eq_false h
  have g : s.getD 0 0 = 45 := yr (of_decide_eq_true g)
  rw [if_neg h, if_pos g] at hq
  have e : List.drop (Int.toNat 1) (List.take s.length s) = s.drop 1 := by rw [List.take_length]; rfl
  exact RetR.scal hq rfl (by simp [resV])
 ·have h : s ≠ [48] := of_decide_eq_false h
  have g : ¬ s.getD 0 0 = 45 := fun h5 => of_decide_eq_false g (by rw [h5]; rfl)
  rw [if_neg h, if_neg g] at hq
  exact RetR.scal hq rfl (by simp [resV])
def Wc : Ctr := ctrP true (fun p : List UInt8 × List UInt8 => [.str p.1, .str p.2]) (fun p => p.1.length < 2 ^ 39 ∧ p.2.length < 2 ^ 39) (fun p r => r = addR p.1 p.2) (fun _ r => (.tup [.str r.1, .int .i64 r.2], []))
def YV : Ctr := ctrP true (fun p : List UInt8 × List UInt8 => [.str p.1, .str p.2]) (fun p => p.1.length < 2 ^ 38 ∧ p.2.length < 2 ^ 38) (fun p r => r = subR p.1 p.2) (fun _ r => (.tup [.str r.1, .int .i64 r.2], []))
def za5 : Ctr := ctrP true (fun p : List UInt8 × List UInt8 => [.str p.1, .str p.2]) (fun p => p.1.length < 2 ^ 39 ∧ p.2.length < 2 ^ 39) (fun p r => r = mulR p.1 p.2) (fun _ r => (.tup [.str r.1, .int .i64 r.2], []))
def zc4 : Ctr := ctrP true (fun p : List UInt8 × List UInt8 => [.str p.1, .str p.2]) (fun p => p.1.length < 2 ^ 39 ∧ p.2.length < 2 ^ 39) (fun p r => r = divR p.1 p.2) (fun _ r => (.tup [.str r.1, .int .i64 r.2], []))
noncomputable def GRh : Nat → Option Ctr := fun f => if f = 66 then some (JZ) else if f = 65 then some (Xe) else if f = 67 then some (YT) else if f = 68 then some (UC) else if f = 69 then some (za4) else none
theorem Kh : ∀ g c, GRh g = some c → zg Tryz.prog g c := okIf ZY (okIf Y8 (okIf zcp (okIf X3 (okIf YS (zp)))))
theorem uY : zg Tryz.prog 42 Wc := by
 refine zi (fn := Tryz.f42) (c := Tryz.f42.body.getD .skip) rfl rfl rfl fun p hp O w0 Q hq => ?_
 obtain ⟨a, b⟩ := p
 obtain ⟨ha, hb⟩ := hp
 replace hq := hq _ rfl
 simp only at ha hb hq
 unfold addR at hq
 refine zd.run hmix Kh [] 400 (T := .ex (fun (x : List UInt8 × List UInt8) => eqL [AV.str a, AV.str b] [AV.str x.1, AV.str x.2] ∧ x.1.length < 549755813888 ∧ x.2.length < 549755813888) fun n => .all (fun (r : List UInt8 × List UInt8 × Int) => r = Wd n.1 n.2) fun n => .ite (!decide (n.2.2 = 0)) (.leaf (.ret [.str (Array.toList #[]), .int .i64 (n.2.2)] [])) (.ex (fun (x : List UInt8 × List UInt8) => eqL [AV.str a, AV.str b] [AV.str x.1, AV.str x.2] ∧ x.1.length < 1099511627776 ∧ x.2.length < 1099511627776) fun n_1 => .all (fun (r : Q4) => r = kC n_1.1 n_1.2) fun n_2 => .ex (fun (x : List UInt8 × List UInt8) => eqL [AV.str n.1, AV.str (n.2.1)] [AV.str x.1, AV.str x.2] ∧ x.1.length < 1099511627776 ∧ x.2.length < 1099511627776) fun n => .all (fun (r : List UInt8 × Int) => r = addI n.1 n.2) fun n => .ex (fun (x : List UInt8 × List UInt8) => eqL [AV.str n_2.d, AV.str n_2.c] [AV.str x.1, AV.str x.2] ∧ x.1.length < 1099511627776 ∧ x.2.length < 1099511627776) fun n_3 => .all (fun (r : List UInt8 × Int) => r = mulI n_3.1 n_3.2) fun n_4 => .ex (fun (x : QF) => eqL [AV.str n.1, AV.str n_4.1, AV.int .i64 n.2, AV.int .i64 n_4.2] [AV.str x.n, AV.str x.d, AV.int .i64 x.e, AV.int .i64 x.f] ∧ x.n.length < 1099511627776 ∧ x.d.length < 1099511627776) fun n => .all (fun (r : List UInt8 × Int) => r = frac (QF.n n, QF.e n) (QF.d n, QF.f n)) fun n => .leaf (.ret [.str n.1, .int .i64 n.2] []))) (by kernel_rfl) ?_
 simp only [Tree.holds, ze]
 refine ⟨(a, b), ⟨⟨rfl, rfl, trivial⟩, ha, hb⟩, ⟨_, rfl⟩, ?_⟩
 rintro _ rfl
 simp only [Wd]
 by_cases he : zM a b = 0
 ·rw [if_neg (by rw [he]; simp)] at hq ⊢
  refine ⟨fun h => (by cases h), fun _ => ?_⟩
  have h2 : zW a b = 0 := by
   refine Decidable.byContradiction fun h => ?_
   unfold zM at he
   rw [if_pos h] at he
   exact h he
  have l1 := qH (numR a) (denR b)
  have l2 := qH (numR b) (denR a)
  have l3 := jv a
  have l4 := jv b
  have l5 := qH (denR a) (denR b)
  have l6 := ZS (mulI (numR a) (denR b)).1 (mulI (numR b) (denR a)).1
  refine ⟨(a, b), ⟨⟨rfl, rfl, trivial⟩, by show a.length < _; omega, by show b.length < _; omega⟩, ⟨_, rfl⟩, ?_⟩
  rintro _ rfl
  simp only [kC]
  rw [if_neg (by rw [h2]; simp)]
  refine ⟨((mulI (numR a) (denR b)).1, (mulI (numR b) (denR a)).1), ⟨⟨rfl, rfl, trivial⟩, by simp only; omega, by simp only; omega⟩, ⟨_, rfl⟩, ?_⟩
  rintro _ rfl
  refine ⟨(denR a, denR b), ⟨⟨rfl, rfl, trivial⟩, by simp only; omega, by simp only; omega⟩, ⟨_, rfl⟩, ?_⟩
  rintro _ rfl
  refine ⟨⟨_, _, _, _⟩, ⟨⟨rfl, rfl, ⟨rfl, rfl⟩, ⟨rfl, rfl⟩, trivial⟩, Nat.lt_of_le_of_lt (ZS _ _) (by decide), Nat.lt_of_le_of_lt (qH _ _) (by decide)⟩, ⟨_, rfl⟩, ?_⟩
  rintro _ rfl
  exact RetR.scal hq rfl (by simp [resV])
 ·rw [if_pos he] at hq ⊢
  refine ⟨fun _ => RetR.scal hq rfl (by simp [resV]), fun h => (by simp [he] at h)⟩
theorem Up : zg Tryz.prog 71 za5 := by
 refine zi (fn := Tryz.f71) (c := Tryz.f71.body.getD .skip) rfl rfl rfl fun p hp O w0 Q hq => ?_
 obtain ⟨a, b⟩ := p
 obtain ⟨ha, hb⟩ := hp
 replace hq := hq _ rfl
 simp only at ha hb hq
 unfold mulR at hq
 refine zd.run hmix Kh [] 400 (T := .ex (fun (x : List UInt8 × List UInt8) => eqL [AV.str a, AV.str b] [AV.str x.1, AV.str x.2] ∧ x.1.length < 1099511627776 ∧ x.2.length < 1099511627776) fun n => .all (fun (r : Q4) => r = kC n.1 n.2) fun n => .ite (!decide (Q4.e n = 0)) (.leaf (.ret [.str (Array.toList #[]), .int .i64 n.e] [])) (.ex (fun (x : List UInt8 × List UInt8) => eqL [AV.str n.n, AV.str n.m] [AV.str x.1, AV.str x.2] ∧ x.1.length < 1099511627776 ∧ x.2.length < 1099511627776) fun n_1 => .all (fun (r : List UInt8 × Int) => r = mulI n_1.1 n_1.2) fun n_2 => .ex (fun (x : List UInt8 × List UInt8) => eqL [AV.str n.d, AV.str n.c] [AV.str x.1, AV.str x.2] ∧ x.1.length < 1099511627776 ∧ x.2.length < 1099511627776) fun n => .all (fun (r : List UInt8 × Int) => r = mulI n.1 n.2) fun n => .ex (fun (x : QF) => eqL [AV.str n_2.1, AV.str n.1, AV.int .i64 n_2.2, AV.int .i64 n.2] [AV.str x.n, AV.str x.d, AV.int .i64 x.e, AV.int .i64 x.f] ∧ x.n.length < 1099511627776 ∧ x.d.length < 1099511627776) fun n => .all (fun (r : List UInt8 × Int) => r = frac (QF.n n, QF.e n) (QF.d n, QF.f n)) fun n => .leaf (.ret [.str n.1, .int .i64 n.2] []))) (by kernel_rfl) ?_
 simp only [Tree.holds, ze]
 refine ⟨(a, b), ⟨⟨rfl, rfl, trivial⟩, by show a.length < _; omega, by show b.length < _; omega⟩, ⟨_, rfl⟩, ?_⟩
 rintro _ rfl
 simp only [kC]
 by_cases he : zW a b = 0
 ·rw [if_neg (by rw [he]; simp)] at hq ⊢
  refine ⟨fun h => (by cases h), fun _ => ?_⟩
  have l1 := wo a
  have l2 := wo b
  have l3 := jv a
  have l4 := jv b
  have l5 := qH (denR a) (denR b)
  have l6 := qH (numR a) (numR b)
  refine ⟨(numR a, numR b), ⟨⟨rfl, rfl, trivial⟩, by simp only; omega, by simp only; omega⟩, ⟨_, rfl⟩, ?_⟩
  rintro _ rfl
  refine ⟨(denR a, denR b), ⟨⟨rfl, rfl, trivial⟩, by simp only; omega, by simp only; omega⟩, ⟨_, rfl⟩, ?_⟩
  rintro _ rfl
  refine ⟨⟨_, _, _, _⟩, ⟨⟨rfl, rfl, ⟨rfl, rfl⟩, ⟨rfl, rfl⟩, trivial⟩, Nat.lt_of_le_of_lt (qH _ _) (by decide), Nat.lt_of_le_of_lt (qH _ _) (by decide)⟩, ⟨_, rfl⟩, ?_⟩
  rintro _ rfl
  exact RetR.scal hq rfl (by simp [resV])
 ·rw [if_pos he] at hq ⊢
  refine ⟨fun _ => RetR.scal hq rfl (by simp [resV]), fun h => (by simp [he] at h)⟩
theorem zba : zg Tryz.prog 72 zc4 := by
 refine zi (fn := Tryz.f72) (c := Tryz.f72.body.getD .skip) rfl rfl rfl fun p hp O w0 Q hq => ?_
 obtain ⟨a, b⟩ := p
 obtain ⟨ha, hb⟩ := hp
 replace hq := hq _ rfl
 simp only at ha hb hq
 unfold divR at hq
 refine zd.run hmix Kh [] 400 (T := .ex (fun (x : List UInt8 × List UInt8) => eqL [AV.str a, AV.str b] [AV.str x.1, AV.str x.2] ∧ x.1.length < 1099511627776 ∧ x.2.length < 1099511627776) fun n => .all (fun (r : Q4) => r = kC n.1 n.2) fun n => .ite (!decide (Q4.e n = 0)) (.leaf (.ret [.str (Array.toList #[]), .int .i64 n.e] [])) (.ite (decide (Q4.m n = Array.toList #[(48 : UInt8)])) (.leaf (.ret [.str (Array.toList #[]), .int .i64 16] [])) (.ex (fun (x : List UInt8 × List UInt8) => eqL [AV.str n.n, AV.str n.c] [AV.str x.1, AV.str x.2] ∧ x.1.length < 1099511627776 ∧ x.2.length < 1099511627776) fun n_1 => .all (fun (r : List UInt8 × Int) => r = mulI n_1.1 n_1.2) fun n_2 => .ex (fun (x : List UInt8 × List UInt8) => eqL [AV.str n.d, AV.str n.m] [AV.str x.1, AV.str x.2] ∧ x.1.length < 1099511627776 ∧ x.2.length < 1099511627776) fun n => .all (fun (r : List UInt8 × Int) => r = mulI n.1 n.2) fun n => .ex (fun (x : QF) => eqL [AV.str n_2.1, AV.str n.1, AV.int .i64 n_2.2, AV.int .i64 n.2] [AV.str x.n, AV.str x.d, AV.int .i64 x.e, AV.int .i64 x.f] ∧ x.n.length < 1099511627776 ∧ x.d.length < 1099511627776) fun n => .all (fun (r : List UInt8 × Int) => r = frac (QF.n n, QF.e n) (QF.d n, QF.f n)) fun n => .leaf (.ret [.str n.1, .int .i64 n.2] [])))) (by kernel_rfl) ?_
 simp only [Tree.holds, ze]
 refine ⟨(a, b), ⟨⟨rfl, rfl, trivial⟩, by show a.length < _; omega, by show b.length < _; omega⟩, ⟨_, rfl⟩, ?_⟩
 rintro _ rfl
 simp only [kC]
 by_cases he : zW a b = 0
 ·rw [if_neg (by rw [he]; simp)] at hq ⊢
  refine ⟨fun h => (by cases h), fun _ => ⟨fun h => ?_, fun h => ?_⟩⟩
  ·rw [if_pos (of_decide_eq_true h)] at hq
   exact RetR.scal hq rfl (by simp [resV])
  rw [if_neg (of_decide_eq_false h)] at hq
  have l1 := wo a
  have l2 := wo b
  have l3 := jv a
  have l4 := jv b
  have l5 := qH (denR a) (numR b)
  have l6 := qH (numR a) (denR b)
  refine ⟨(numR a, denR b), ⟨⟨rfl, rfl, trivial⟩, by simp only; omega, by simp only; omega⟩, ⟨_, rfl⟩, ?_⟩
  rintro _ rfl
  refine ⟨(denR a, numR b), ⟨⟨rfl, rfl, trivial⟩, by simp only; omega, by simp only; omega⟩, ⟨_, rfl⟩, ?_⟩
  rintro _ rfl
  refine ⟨⟨_, _, _, _⟩, ⟨⟨rfl, rfl, ⟨rfl, rfl⟩, ⟨rfl, rfl⟩, trivial⟩, Nat.lt_of_le_of_lt (qH _ _) (by decide), Nat.lt_of_le_of_lt (qH _ _) (by decide)⟩, ⟨_, rfl⟩, ?_⟩
  rintro _ rfl
  exact RetR.scal hq rfl (by simp [resV])
 ·rw [if_pos he] at hq ⊢
  refine ⟨fun _ => RetR.scal hq rfl (by simp [resV]), fun h => (by simp [he] at h)⟩
noncomputable def GRi : Nat → Option Ctr := fun f => if f = 66 then some (JZ) else if f = 42 then some (Wc) else if f = 25 then some (Kd) else none
theorem ze3 : ∀ g c, GRi g = some c → zg Tryz.prog g c := okIf ZY (okIf uY (okIf V0 (zp)))
theorem zbc : zg Tryz.prog 70 YV := by
 refine zi (fn := Tryz.f70) (c := Tryz.f70.body.getD .skip) rfl rfl rfl fun p hp O w0 Q hq => ?_
 obtain ⟨a, b⟩ := p
 obtain ⟨ha, hb⟩ := hp
 replace hq := hq _ rfl
 simp only at ha hb hq
 refine zd.run hmix ze3 [] 400 (T := .ex (fun (x : List UInt8 × List UInt8) => eqL [AV.str a, AV.str b] [AV.str x.1, AV.str x.2] ∧ x.1.length < 1099511627776 ∧ x.2.length < 1099511627776) fun n => .all (fun (r : Q4) => r = kC n.1 n.2) fun n => .ite (!decide (Q4.e n = 0)) (.leaf (.ret [.str (Array.toList #[]), .int .i64 n.e] [])) (.ex (fun (x : List UInt8) => eqL [AV.str b] [AV.str x] ∧ 0 < x.length ∧ x.length < 1099511627776) fun n => .all (fun (r : List UInt8) => r = negS n) fun n => .ex (fun (x : List UInt8 × List UInt8) => eqL [AV.str a, AV.str n] [AV.str x.1, AV.str x.2] ∧ x.1.length < 549755813888 ∧ x.2.length < 549755813888) fun n => .all (fun (r : List UInt8 × Int) => r = addR n.1 n.2) fun n => .leaf (.ret [.str n.1, .int .i64 n.2] []))) (by kernel_rfl) ?_
 simp only [Tree.holds, ze]
 refine ⟨(a, b), ⟨⟨rfl, rfl, trivial⟩, by show a.length < _; omega, by show b.length < _; omega⟩, ⟨_, rfl⟩, ?_⟩
 rintro _ rfl
 simp only [kC]
 by_cases he : zW a b = 0
 ·rw [if_neg (by rw [he]; simp)]
  refine ⟨fun h => (by cases h), fun _ => ?_⟩
  have hab : errR a = 0 ∧ errR b = 0 := by
   unfold zW at he
   split at he
   ·rename_i h; exact ⟨h, he⟩
   ·rename_i h; exact absurd he h
  have hb0 : 0 < b.length := by
   refine List.length_pos_iff.2 ?_
   rintro rfl
   exact absurd hab.2 (by decide)
  have hnl : (negS b).length ≤ b.length + 1 := by
   unfold negS
   split
   ·omega
   ·split <;> simp <;> omega
  refine ⟨b, ⟨by simp, hb0, by omega⟩, ⟨_, rfl⟩, ?_⟩
  rintro _ rfl
  refine ⟨(a, negS b), ⟨⟨rfl, rfl, trivial⟩, by show a.length < _; omega, by simp only; omega⟩, ⟨_, rfl⟩, ?_⟩
  rintro _ rfl
  rw [← sub_neg hab.1 hab.2] at hq
  exact RetR.scal hq rfl (by simp [resV])
 ·rw [if_pos he]
  have e : subR a b = ([], zW a b) := by
   have : zM a b = zW a b := by unfold zM; rw [if_pos he]
   unfold subR
   rw [this, if_pos he]
  rw [e] at hq
  refine ⟨fun _ => RetR.scal hq rfl (by simp [resV]), fun h => (by simp [he] at h)⟩
end Go.Proofs.Tryz
end

/- The reference's tapes: checks, runs. -/
section
set_option maxRecDepth 100000
open Go Go.Sx Go.Proofs Go.Nov
namespace Go.Proofs.Tryz
attribute [local simp] eqKV eqA eqA0 eqH eqB eqL eqL0
noncomputable def K84 : List Go.Sx.Item := [.code (Tryz.f84.body.getD .skip)]
noncomputable def K43 : List Go.Sx.Item := [.code (Tryz.f43.body.getD .skip)]
noncomputable def tInI : Ctr := inlC Tryz.prog noG 100 Tryz.f40
theorem Ko : zg Tryz.prog 40 tInI := wP hmix z3 rfl rfl
noncomputable def GU1 : Nat → Option Ctr := fun f => if f = 40 then some (tInI) else if f = 41 then some (xc) else none
theorem zet : ∀ g c, GU1 g = some c → zg Tryz.prog g c := okIf Ko (okIf k8 (zp))
noncomputable def za1 : Ctr := inlC Tryz.prog GU1 100 Tryz.f99
theorem Ur : zg Tryz.prog 99 za1 := wP hmix zet rfl rfl
def Wf : Ctr := ctrP true (fun t : Tp => [t.av]) (fun t => t.ops.length < 2 ^ 40 ∧ ∀ j, j < t.ops.length → (t.ops.getD j TOp.nil).rat.length < 2 ^ 40) (fun t r => r = zh t) (fun _ (r : Int) => (.int .i64 r, []))
def StCk (i : Nat) : KV := [(1, .ptr 0 0), (3, .int .i64 (i : Int))]
noncomputable def GU2 : Nat → Option Ctr := fun f => if f = 40 then some (tInI) else if f = 99 then some (za1) else none
theorem zab : ∀ g c, GU2 g = some c → zg Tryz.prog g c := okIf Ko (okIf Ur (zp))
theorem Y1 : zg Tryz.prog 84 Wf := by
 refine zi (fn := Tryz.f84) (c := Tryz.f84.body.getD .skip) rfl rfl rfl fun p hp O w0 Q hq => ?_
 obtain ⟨n, ops⟩ := p
 obtain ⟨h1, h2⟩ := hp
 replace hq := hq _ rfl
 simp only at h1 h2 hq
 refine zd.run hmix zab [1, 3] 400 (T := .ite (decide ((500 : Int) < ops.length)) (.leaf (.ret [.int .i64 4] [.box [.int .i64 n, .sl ops.length 4 (opG ops)]])) (.ite (bif !bif decide ((0 : Int) ≤ n) then decide (n ≤ 500) else false then true else decide ((↑ops.length : Int) = 0)) (.leaf (.ret [.int .i64 8] [.box [.int .i64 n, .sl ops.length 4 (opG ops)]])) (.leaf (.loop (Prod.fst (lps K84 0)) (Prod.snd (lps K84 0)) [(1, .ptr 0 0), (3, .int .i64 0)] [.box [.int .i64 n, .sl ops.length 4 (opG ops)]])))) (by kernel_rfl) ?_
 simp only [Tree.holds, ze]
 refine ⟨fun h => ?_, fun h => ⟨fun h3 => ?_, fun h3 => ?_⟩⟩
 ·have h : 500 < ops.length := by have := of_decide_eq_true h; omega
  have e : zh ⟨n, ops⟩ = 4 := by unfold zh; rw [if_pos h]
  rw [e] at hq
  exact RetR.scal hq rfl (by simp [resV])
 ·have hl : ¬ 500 < ops.length := by have := of_decide_eq_false h; omega
  have hb : vN ⟨n, ops⟩ = false := by
   unfold vN
   by_cases g1 : 0 ≤ n
   ·by_cases g2 : n ≤ 500
    ·rw [decide_eq_true g1, decide_eq_true g2] at h3
     have h3 : (ops.length : Int) = 0 := of_decide_eq_true h3
     rw [decide_eq_false (show ¬ 0 < ops.length by omega), Bool.and_false]
    ·rw [decide_eq_false g2, Bool.and_false, Bool.false_and]
   ·rw [decide_eq_false g1, Bool.false_and, Bool.false_and]
  have e : zh ⟨n, ops⟩ = 8 := by unfold zh; rw [if_neg hl, hb]; rfl
  rw [e] at hq
  exact RetR.scal hq rfl (by simp [resV])
 have hl : ¬ 500 < ops.length := by have := of_decide_eq_false h; omega
 have hb : vN ⟨n, ops⟩ = true := by
  unfold vN
  by_cases g1 : 0 ≤ n
  ·by_cases g2 : n ≤ 500
   ·rw [decide_eq_true g1, decide_eq_true g2] at h3 ⊢
    have h3 : ¬ (ops.length : Int) = 0 := of_decide_eq_false h3
    rw [decide_eq_true (show 0 < ops.length by omega)]; rfl
   ·rw [decide_eq_true g1, decide_eq_false g2] at h3; cases h3
  ·rw [decide_eq_false g1] at h3; cases h3
 have hn0 : 0 ≤ n ∧ n ≤ 500 := by
  unfold vN at hb
  simp only [Bool.and_eq_true, decide_eq_true_eq] at hb
  exact hb.1
 have hck : zh ⟨n, ops⟩ = if ji ⟨n, ops⟩ ops.length = true then 0 else 8 := by unfold zh; rw [if_neg hl, hb, Bool.true_and]
 refine zd.loop (ι := {i : Nat // i ≤ ops.length ∧ ji ⟨n, ops⟩ i = true}) (fun i => StCk i.1) (fun _ => HbRn n ops) (fun i => ops.length - i.1) ⟨0, Nat.zero_le _, rfl⟩ 0 ?_ ?_ (by kernel_rfl)
 ·exact ⟨by simp [StCk], by simp [HbRn, opS, zc], by kernel_rfl, Nat.zero_le _⟩
 rintro ⟨i, hil, hio⟩
 refine zd.run hmix zab [1, 3] 400 (T := .ite (decide ((↑i : Int) < ops.length)) (.side ((0 : Int) ≤ i ∧ (↑i : Int) < ops.length) (.ite (decide (TOp.kind (List.getD ops (Int.toNat (↑i : Int)) TOp.nil) = (1 : Int))) (.side (inR .i64 (n - (1 : Int))) (.ite (!bif bif bif decide ((0 : Int) ≤ TOp.a (List.getD ops (Int.toNat (↑i : Int)) TOp.nil)) then decide (TOp.a (List.getD ops (Int.toNat (↑i : Int)) TOp.nil) ≤ n - (1 : Int)) else false then decide (TOp.b (List.getD ops (Int.toNat (↑i : Int)) TOp.nil) = (0 : Int)) else false then decide (TOp.rat (List.getD ops (Int.toNat (↑i : Int)) TOp.nil) = Array.toList #[]) else false) (.leaf (.ret [.int .i64 8] [.box [.int .i64 n, .sl ops.length 4 (opG ops)], .box [.int .i64 n, .sl ops.length 4 (opG ops)], .box [.int .u8 (TOp.kind (List.getD ops (Int.toNat (↑i : Int)) TOp.nil)), .int .i64 (TOp.a (List.getD ops (Int.toNat (↑i : Int)) TOp.nil)), .int .i64 (TOp.b (List.getD ops (Int.toNat (↑i : Int)) TOp.nil)), .str (TOp.rat (List.getD ops (Int.toNat (↑i : Int)) TOp.nil))]])) (.side (inR .i64 ((↑i : Int) + (1 : Int))) (.leaf (.back 0 [(1, .ptr 0 0), (3, .int .i64 ((↑i : Int) + (1 : Int)))] [.box [.int .i64 n, .sl ops.length 4 (opG ops)], .box [.int .i64 n, .sl ops.length 4 (opG ops)], .box [.int .u8 (TOp.kind (List.getD ops (Int.toNat (↑i : Int)) TOp.nil)), .int .i64 (TOp.a (List.getD ops (Int.toNat (↑i : Int)) TOp.nil)), .int .i64 (TOp.b (List.getD ops (Int.toNat (↑i : Int)) TOp.nil)), .str (TOp.rat (List.getD ops (Int.toNat (↑i : Int)) TOp.nil))]]))))) (.ite (decide (TOp.kind (List.getD ops (Int.toNat (↑i : Int)) TOp.nil) = (2 : Int))) (.ex (fun (x : List UInt8) => (bif decide (TOp.a (List.getD ops (Int.toNat (↑i : Int)) TOp.nil) = (0 : Int)) then decide (TOp.b (List.getD ops (Int.toNat (↑i : Int)) TOp.nil) = (0 : Int)) else false) = true → eqL [AV.str (TOp.rat (List.getD ops (Int.toNat (↑i : Int)) TOp.nil))] [AV.str x] ∧ x.length < 1099511627776) fun n_1 => .all (fun (x : Int) => (bif decide (TOp.a (List.getD ops (Int.toNat (↑i : Int)) TOp.nil) = (0 : Int)) then decide (TOp.b (List.getD ops (Int.toNat (↑i : Int)) TOp.nil) = (0 : Int)) else false) = true → x = errR n_1) fun n_2 => .ite (!bif bif decide (TOp.a (List.getD ops (Int.toNat (↑i : Int)) TOp.nil) = (0 : Int)) then decide (TOp.b (List.getD ops (Int.toNat (↑i : Int)) TOp.nil) = (0 : Int)) else false then decide (n_2 = 0) else false) (.leaf (.ret [.int .i64 8] [.box [.int .i64 n, .sl ops.length 4 (opG ops)], .box [.int .i64 n, .sl ops.length 4 (opG ops)], .box [.int .u8 (TOp.kind (List.getD ops (Int.toNat (↑i : Int)) TOp.nil)), .int .i64 (TOp.a (List.getD ops (Int.toNat (↑i : Int)) TOp.nil)), .int .i64 (TOp.b (List.getD ops (Int.toNat (↑i : Int)) TOp.nil)), .str (TOp.rat (List.getD ops (Int.toNat (↑i : Int)) TOp.nil))]])) (.side (inR .i64 ((↑i : Int) + (1 : Int))) (.leaf (.back 0 [(1, .ptr 0 0), (3, .int .i64 ((↑i : Int) + (1 : Int)))] [.box [.int .i64 n, .sl ops.length 4 (opG ops)], .box [.int .i64 n, .sl ops.length 4 (opG ops)], .box [.int .u8 (TOp.kind (List.getD ops (Int.toNat (↑i : Int)) TOp.nil)), .int .i64 (TOp.a (List.getD ops (Int.toNat (↑i : Int)) TOp.nil)), .int .i64 (TOp.b (List.getD ops (Int.toNat (↑i : Int)) TOp.nil)), .str (TOp.rat (List.getD ops (Int.toNat (↑i : Int)) TOp.nil))]])))) (.ite (decide (TOp.kind (List.getD ops (Int.toNat (↑i : Int)) TOp.nil) = (3 : Int))) (.ite (decide (TOp.kind (List.getD ops (Int.toNat (↑i : Int)) TOp.nil) = (3 : Int))) (.side (inR .i64 ((↑i : Int) - (1 : Int))) (.side ((bif decide ((0 : Int) ≤ TOp.a (List.getD ops (Int.toNat (↑i : Int)) TOp.nil)) then decide (TOp.a (List.getD ops (Int.toNat (↑i : Int)) TOp.nil) ≤ (↑i : Int) - (1 : Int)) else false) = true → inR .i64 ((↑i : Int) - (1 : Int))) (.ite (!bif bif bif decide ((0 : Int) ≤ TOp.a (List.getD ops (Int.toNat (↑i : Int)) TOp.nil)) then decide (TOp.a (List.getD ops (Int.toNat (↑i : Int)) TOp.nil) ≤ (↑i : Int) - (1 : Int)) else false then bif decide ((0 : Int) ≤ TOp.b (List.getD ops (Int.toNat (↑i : Int)) TOp.nil)) then decide (TOp.b (List.getD ops (Int.toNat (↑i : Int)) TOp.nil) ≤ (↑i : Int) - (1 : Int)) else false else false then decide (TOp.rat (List.getD ops (Int.toNat (↑i : Int)) TOp.nil) = Array.toList #[]) else false) (.leaf (.ret [.int .i64 8] [.box [.int .i64 n, .sl ops.length 4 (opG ops)], .box [.int .i64 n, .sl ops.length 4 (opG ops)], .box [.int .u8 (TOp.kind (List.getD ops (Int.toNat (↑i : Int)) TOp.nil)), .int .i64 (TOp.a (List.getD ops (Int.toNat (↑i : Int)) TOp.nil)), .int .i64 (TOp.b (List.getD ops (Int.toNat (↑i : Int)) TOp.nil)), .str (TOp.rat (List.getD ops (Int.toNat (↑i : Int)) TOp.nil))]])) (.side (inR .i64 ((↑i : Int) + (1 : Int))) (.leaf (.back 0 [(1, .ptr 0 0), (3, .int .i64 ((↑i : Int) + (1 : Int)))] [.box [.int .i64 n, .sl ops.length 4 (opG ops)], .box [.int .i64 n, .sl ops.length 4 (opG ops)], .box [.int .u8 (TOp.kind (List.getD ops (Int.toNat (↑i : Int)) TOp.nil)), .int .i64 (TOp.a (List.getD ops (Int.toNat (↑i : Int)) TOp.nil)), .int .i64 (TOp.b (List.getD ops (Int.toNat (↑i : Int)) TOp.nil)), .str (TOp.rat (List.getD ops (Int.toNat (↑i : Int)) TOp.nil))]])))))) (.ite true (.leaf (.ret [.int .i64 8] [.box [.int .i64 n, .sl ops.length 4 (opG ops)], .box [.int .i64 n, .sl ops.length 4 (opG ops)], .box [.int .u8 (TOp.kind (List.getD ops (Int.toNat (↑i : Int)) TOp.nil)), .int .i64 (TOp.a (List.getD ops (Int.toNat (↑i : Int)) TOp.nil)), .int .i64 (TOp.b (List.getD ops (Int.toNat (↑i : Int)) TOp.nil)), .str (TOp.rat (List.getD ops (Int.toNat (↑i : Int)) TOp.nil))]])) (.side (inR .i64 ((↑i : Int) + (1 : Int))) (.leaf (.back 0 [(1, .ptr 0 0), (3, .int .i64 ((↑i : Int) + (1 : Int)))] [.box [.int .i64 n, .sl ops.length 4 (opG ops)], .box [.int .i64 n, .sl ops.length 4 (opG ops)], .box [.int .u8 (TOp.kind (List.getD ops (Int.toNat (↑i : Int)) TOp.nil)), .int .i64 (TOp.a (List.getD ops (Int.toNat (↑i : Int)) TOp.nil)), .int .i64 (TOp.b (List.getD ops (Int.toNat (↑i : Int)) TOp.nil)), .str (TOp.rat (List.getD ops (Int.toNat (↑i : Int)) TOp.nil))]]))))) (.ite (decide (TOp.kind (List.getD ops (Int.toNat (↑i : Int)) TOp.nil) = (4 : Int))) (.ite (decide (TOp.kind (List.getD ops (Int.toNat (↑i : Int)) TOp.nil) = (4 : Int))) (.side (inR .i64 ((↑i : Int) - (1 : Int))) (.side ((bif decide ((0 : Int) ≤ TOp.a (List.getD ops (Int.toNat (↑i : Int)) TOp.nil)) then decide (TOp.a (List.getD ops (Int.toNat (↑i : Int)) TOp.nil) ≤ (↑i : Int) - (1 : Int)) else false) = true → inR .i64 ((↑i : Int) - (1 : Int))) (.ite (!bif bif bif decide ((0 : Int) ≤ TOp.a (List.getD ops (Int.toNat (↑i : Int)) TOp.nil)) then decide (TOp.a (List.getD ops (Int.toNat (↑i : Int)) TOp.nil) ≤ (↑i : Int) - (1 : Int)) else false then bif decide ((0 : Int) ≤ TOp.b (List.getD ops (Int.toNat (↑i : Int)) TOp.nil)) then decide (TOp.b (List.getD ops (Int.toNat (↑i : Int)) TOp.nil) ≤ (↑i : Int) - (1 : Int)) else false else false then decide (TOp.rat (List.getD ops (Int.toNat (↑i : Int)) TOp.nil) = Array.toList #[]) else false) (.leaf (.ret [.int .i64 8] [.box [.int .i64 n, .sl ops.length 4 (opG ops)], .box [.int .i64 n, .sl ops.length 4 (opG ops)], .box [.int .u8 (TOp.kind (List.getD ops (Int.toNat (↑i : Int)) TOp.nil)), .int .i64 (TOp.a (List.getD ops (Int.toNat (↑i : Int)) TOp.nil)), .int .i64 (TOp.b (List.getD ops (Int.toNat (↑i : Int)) TOp.nil)), .str (TOp.rat (List.getD ops (Int.toNat (↑i : Int)) TOp.nil))]])) (.side (inR .i64 ((↑i : Int) + (1 : Int))) (.leaf (.back 0 [(1, .ptr 0 0), (3, .int .i64 ((↑i : Int) + (1 : Int)))] [.box [.int .i64 n, .sl ops.length 4 (opG ops)], .box [.int .i64 n, .sl ops.length 4 (opG ops)], .box [.int .u8 (TOp.kind (List.getD ops (Int.toNat (↑i : Int)) TOp.nil)), .int .i64 (TOp.a (List.getD ops (Int.toNat (↑i : Int)) TOp.nil)), .int .i64 (TOp.b (List.getD ops (Int.toNat (↑i : Int)) TOp.nil)), .str (TOp.rat (List.getD ops (Int.toNat (↑i : Int)) TOp.nil))]])))))) (.ite true (.leaf (.ret [.int .i64 8] [.box [.int .i64 n, .sl ops.length 4 (opG ops)], .box [.int .i64 n, .sl ops.length 4 (opG ops)], .box [.int .u8 (TOp.kind (List.getD ops (Int.toNat (↑i : Int)) TOp.nil)), .int .i64 (TOp.a (List.getD ops (Int.toNat (↑i : Int)) TOp.nil)), .int .i64 (TOp.b (List.getD ops (Int.toNat (↑i : Int)) TOp.nil)), .str (TOp.rat (List.getD ops (Int.toNat (↑i : Int)) TOp.nil))]])) (.side (inR .i64 ((↑i : Int) + (1 : Int))) (.leaf (.back 0 [(1, .ptr 0 0), (3, .int .i64 ((↑i : Int) + (1 : Int)))] [.box [.int .i64 n, .sl ops.length 4 (opG ops)], .box [.int .i64 n, .sl ops.length 4 (opG ops)], .box [.int .u8 (TOp.kind (List.getD ops (Int.toNat (↑i : Int)) TOp.nil)), .int .i64 (TOp.a (List.getD ops (Int.toNat (↑i : Int)) TOp.nil)), .int .i64 (TOp.b (List.getD ops (Int.toNat (↑i : Int)) TOp.nil)), .str (TOp.rat (List.getD ops (Int.toNat (↑i : Int)) TOp.nil))]]))))) (.ite (decide (TOp.kind (List.getD ops (Int.toNat (↑i : Int)) TOp.nil) = (5 : Int))) (.ite (decide (TOp.kind (List.getD ops (Int.toNat (↑i : Int)) TOp.nil) = (5 : Int))) (.side (inR .i64 ((↑i : Int) - (1 : Int))) (.side ((bif decide ((0 : Int) ≤ TOp.a (List.getD ops (Int.toNat (↑i : Int)) TOp.nil)) then decide (TOp.a (List.getD ops (Int.toNat (↑i : Int)) TOp.nil) ≤ (↑i : Int) - (1 : Int)) else false) = true → inR .i64 ((↑i : Int) - (1 : Int))) (.ite (!bif bif bif decide ((0 : Int) ≤ TOp.a (List.getD ops (Int.toNat (↑i : Int)) TOp.nil)) then decide (TOp.a (List.getD ops (Int.toNat (↑i : Int)) TOp.nil) ≤ (↑i : Int) - (1 : Int)) else false then bif decide ((0 : Int) ≤ TOp.b (List.getD ops (Int.toNat (↑i : Int)) TOp.nil)) then decide (TOp.b (List.getD ops (Int.toNat (↑i : Int)) TOp.nil) ≤ (↑i : Int) - (1 : Int)) else false else false then decide (TOp.rat (List.getD ops (Int.toNat (↑i : Int)) TOp.nil) = Array.toList #[]) else false) (.leaf (.ret [.int .i64 8] [.box [.int .i64 n, .sl ops.length 4 (opG ops)], .box [.int .i64 n, .sl ops.length 4 (opG ops)], .box [.int .u8 (TOp.kind (List.getD ops (Int.toNat (↑i : Int)) TOp.nil)), .int .i64 (TOp.a (List.getD ops (Int.toNat (↑i : Int)) TOp.nil)), .int .i64 (TOp.b (List.getD ops (Int.toNat (↑i : Int)) TOp.nil)), .str (TOp.rat (List.getD ops (Int.toNat (↑i : Int)) TOp.nil))]])) (.side (inR .i64 ((↑i : Int) + (1 : Int))) (.leaf (.back 0 [(1, .ptr 0 0), (3, .int .i64 ((↑i : Int) + (1 : Int)))] [.box [.int .i64 n, .sl ops.length 4 (opG ops)], .box [.int .i64 n, .sl ops.length 4 (opG ops)], .box [.int .u8 (TOp.kind (List.getD ops (Int.toNat (↑i : Int)) TOp.nil)), .int .i64 (TOp.a (List.getD ops (Int.toNat (↑i : Int)) TOp.nil)), .int .i64 (TOp.b (List.getD ops (Int.toNat (↑i : Int)) TOp.nil)), .str (TOp.rat (List.getD ops (Int.toNat (↑i : Int)) TOp.nil))]])))))) (.ite true (.leaf (.ret [.int .i64 8] [.box [.int .i64 n, .sl ops.length 4 (opG ops)], .box [.int .i64 n, .sl ops.length 4 (opG ops)], .box [.int .u8 (TOp.kind (List.getD ops (Int.toNat (↑i : Int)) TOp.nil)), .int .i64 (TOp.a (List.getD ops (Int.toNat (↑i : Int)) TOp.nil)), .int .i64 (TOp.b (List.getD ops (Int.toNat (↑i : Int)) TOp.nil)), .str (TOp.rat (List.getD ops (Int.toNat (↑i : Int)) TOp.nil))]])) (.side (inR .i64 ((↑i : Int) + (1 : Int))) (.leaf (.back 0 [(1, .ptr 0 0), (3, .int .i64 ((↑i : Int) + (1 : Int)))] [.box [.int .i64 n, .sl ops.length 4 (opG ops)], .box [.int .i64 n, .sl ops.length 4 (opG ops)], .box [.int .u8 (TOp.kind (List.getD ops (Int.toNat (↑i : Int)) TOp.nil)), .int .i64 (TOp.a (List.getD ops (Int.toNat (↑i : Int)) TOp.nil)), .int .i64 (TOp.b (List.getD ops (Int.toNat (↑i : Int)) TOp.nil)), .str (TOp.rat (List.getD ops (Int.toNat (↑i : Int)) TOp.nil))]]))))) (.ite (decide (TOp.kind (List.getD ops (Int.toNat (↑i : Int)) TOp.nil) = (6 : Int))) (.side (inR .i64 ((↑i : Int) - (1 : Int))) (.side ((bif decide ((0 : Int) ≤ TOp.a (List.getD ops (Int.toNat (↑i : Int)) TOp.nil)) then decide (TOp.a (List.getD ops (Int.toNat (↑i : Int)) TOp.nil) ≤ (↑i : Int) - (1 : Int)) else false) = true → inR .i64 ((↑i : Int) - (1 : Int))) (.ite (!bif bif bif decide ((0 : Int) ≤ TOp.a (List.getD ops (Int.toNat (↑i : Int)) TOp.nil)) then decide (TOp.a (List.getD ops (Int.toNat (↑i : Int)) TOp.nil) ≤ (↑i : Int) - (1 : Int)) else false then bif decide ((0 : Int) ≤ TOp.b (List.getD ops (Int.toNat (↑i : Int)) TOp.nil)) then decide (TOp.b (List.getD ops (Int.toNat (↑i : Int)) TOp.nil) ≤ (↑i : Int) - (1 : Int)) else false else false then decide (TOp.rat (List.getD ops (Int.toNat (↑i : Int)) TOp.nil) = Array.toList #[]) else false) (.leaf (.ret [.int .i64 8] [.box [.int .i64 n, .sl ops.length 4 (opG ops)], .box [.int .i64 n, .sl ops.length 4 (opG ops)], .box [.int .u8 (TOp.kind (List.getD ops (Int.toNat (↑i : Int)) TOp.nil)), .int .i64 (TOp.a (List.getD ops (Int.toNat (↑i : Int)) TOp.nil)), .int .i64 (TOp.b (List.getD ops (Int.toNat (↑i : Int)) TOp.nil)), .str (TOp.rat (List.getD ops (Int.toNat (↑i : Int)) TOp.nil))]])) (.side (inR .i64 ((↑i : Int) + (1 : Int))) (.leaf (.back 0 [(1, .ptr 0 0), (3, .int .i64 ((↑i : Int) + (1 : Int)))] [.box [.int .i64 n, .sl ops.length 4 (opG ops)], .box [.int .i64 n, .sl ops.length 4 (opG ops)], .box [.int .u8 (TOp.kind (List.getD ops (Int.toNat (↑i : Int)) TOp.nil)), .int .i64 (TOp.a (List.getD ops (Int.toNat (↑i : Int)) TOp.nil)), .int .i64 (TOp.b (List.getD ops (Int.toNat (↑i : Int)) TOp.nil)), .str (TOp.rat (List.getD ops (Int.toNat (↑i : Int)) TOp.nil))]])))))) (.ite true (.leaf (.ret [.int .i64 8] [.box [.int .i64 n, .sl ops.length 4 (opG ops)], .box [.int .i64 n, .sl ops.length 4 (opG ops)], .box [.int .u8 (TOp.kind (List.getD ops (Int.toNat (↑i : Int)) TOp.nil)), .int .i64 (TOp.a (List.getD ops (Int.toNat (↑i : Int)) TOp.nil)), .int .i64 (TOp.b (List.getD ops (Int.toNat (↑i : Int)) TOp.nil)), .str (TOp.rat (List.getD ops (Int.toNat (↑i : Int)) TOp.nil))]])) (.side (inR .i64 ((↑i : Int) + (1 : Int))) (.leaf (.back 0 [(1, .ptr 0 0), (3, .int .i64 ((↑i : Int) + (1 : Int)))] [.box [.int .i64 n, .sl ops.length 4 (opG ops)], .box [.int .i64 n, .sl ops.length 4 (opG ops)], .box [.int .u8 (TOp.kind (List.getD ops (Int.toNat (↑i : Int)) TOp.nil)), .int .i64 (TOp.a (List.getD ops (Int.toNat (↑i : Int)) TOp.nil)), .int .i64 (TOp.b (List.getD ops (Int.toNat (↑i : Int)) TOp.nil)), .str (TOp.rat (List.getD ops (Int.toNat (↑i : Int)) TOp.nil))]]))))))))))) (.leaf (.ret [.int .i64 0] [.box [.int .i64 n, .sl ops.length 4 (opG ops)]]))) (by kernel_rfl) ?_
 simp only [Tree.holds, ze, inR, lo, hi, Int.toNat_natCast]
 refine ⟨fun hlt => ?_, fun hge => ?_⟩
 ·have hlt : i < ops.length := by have := of_decide_eq_true hlt; omega
  have hsm := h2 i hlt
  have hs := ZB ⟨n, ops⟩ i
  rw [hio, Bool.true_and] at hs
  simp only at hs
  obtain ⟨o, ho⟩ : ∃ o, ops.getD i TOp.nil = o := ⟨_, rfl⟩
  rw [ho] at hs hsm
  simp only [ho]
  have key : ∀ (b : Bool) (X Y : Heap), b = okOp n i o → ((!b) = true → RetR Wf 0 Q [.int .i64 8] X) ∧ ((!b) = false → (-9223372036854775808 ≤ (i : Int) + 1 ∧ (i : Int) + 1 ≤ 9223372036854775807) ∧ (-9223372036854775808 ≤ (i : Int) + 1 ∧ (i : Int) + 1 ≤ 9223372036854775807 → if True then
    ∃ x' : {i : Nat // i ≤ ops.length ∧ ji ⟨n, ops⟩ i = true}, ops.length - x'.1 < ops.length - i ∧ LeK 0 Tryz.f84.ntmps [(1, .ptr 0 0), (3, .int .i64 ((i : Int) + 1))] ([.box [.int .i64 n, opS ops]] ++ Y) (StCk x'.1) (HbRn n ops) else False)) := by
   rintro b X Y rfl
   refine ⟨fun h => ?_, fun h => ⟨by omega, fun _ => ?_⟩⟩
   ·have h : okOp n i o = false := by simpa using h
    rw [h] at hs
    have e : ji ⟨n, ops⟩ ops.length = false := by
     cases hc : ji ⟨n, ops⟩ ops.length with
     | false => rfl
     | true => rw [KS _ (show i + 1 ≤ ops.length from hlt) hc] at hs; cases hs
    rw [hck, e, if_neg (by decide)] at hq
    exact RetR.scal hq rfl (by simp [resV])
   ·have h : okOp n i o = true := by simpa using h
    rw [if_pos trivial]
    exact ⟨⟨i + 1, hlt, by rw [hs, h]⟩, by show ops.length - (i + 1) < ops.length - i; omega, by simp [StCk], ⟨by simp [opS, zc], by cases Y <;> trivial⟩, by kernel_rfl, Nat.zero_le _⟩
  have cut : ∀ (a b : Int), (bif decide (0 ≤ a) then decide (a ≤ b - 1) else false) = (decide (0 ≤ a) && decide (a < b)) := fun a b => by
   rw [show decide (a ≤ b - 1) = decide (a < b) from decide_eq_decide.2 (by omega)]
   cases decide (0 ≤ a) <;> rfl
  have ar : (o.kind = 3 ∨ o.kind = 4 ∨ o.kind = 5 ∨ o.kind = 6) → (bif bif bif decide (0 ≤ o.a) then decide (o.a ≤ (i : Int) - 1) else false then bif decide (0 ≤ o.b) then decide (o.b ≤ (i : Int) - 1) else false else false then decide (o.rat = []) else false) = okOp n i o := by
   intro hk
   unfold okOp
   rw [if_neg (by omega), if_neg (by omega), if_pos (by omega), cut, cut]
   cases (decide (0 ≤ o.a) && decide (o.a < (i : Int))) <;> cases (decide (0 ≤ o.b) && decide (o.b < (i : Int))) <;> rfl
  refine ⟨by omega, fun _ => ⟨fun k1 => ⟨by omega, fun _ => ?_⟩, fun k1 => ⟨fun k2 => ?_, fun k2 => ⟨fun k3 => ⟨fun _ => ⟨by omega, fun _ => ⟨fun _ => by omega, fun _ => ?_⟩⟩, fun k => absurd (k3.symm.trans k) (by decide)⟩, fun k3 => ⟨fun k4 => ⟨fun _ => ⟨by omega, fun _ => ⟨fun _ => by omega, fun _ => ?_⟩⟩, fun k => absurd (k4.symm.trans k) (by decide)⟩, fun k4 => ⟨fun k5 => ⟨fun _ => ⟨by omega, fun _ => ⟨fun _ => by omega, fun _ => ?_⟩⟩, fun k => absurd (k5.symm.trans k) (by decide)⟩, fun k5 => ⟨fun k6 => ⟨by omega, fun _ => ⟨fun _ => by omega, fun _ => ?_⟩⟩, fun k6 => ?_⟩⟩⟩⟩⟩⟩⟩
  ·have k1 := of_decide_eq_true k1
   refine key _ _ [_, _] ?_
   unfold okOp
   rw [if_pos k1, cut]
   cases (decide (0 ≤ o.a) && decide (o.a < n)) <;> cases decide (o.b = 0) <;> rfl
  ·have k1 := of_decide_eq_false k1
   have k2 := of_decide_eq_true k2
   refine ⟨o.rat, fun _ => ⟨⟨rfl, trivial⟩, by omega⟩, ⟨_, fun _ => rfl⟩, fun e he => ?_⟩
   refine key _ _ [_, _] ?_
   unfold okOp
   rw [if_neg k1, if_pos k2]
   cases hab : (bif decide (o.a = 0) then decide (o.b = 0) else false) with
   | true =>
    rw [he hab, show (decide (errR o.rat = 0) && decide (o.a = 0) && decide (o.b = 0)) = (decide (errR o.rat = 0) && (decide (o.a = 0) && decide (o.b = 0))) from Bool.and_assoc _ _ _]
    rw [show (decide (o.a = 0) && decide (o.b = 0)) = true from by rw [← hab]; cases decide (o.a = 0) <;> rfl, Bool.and_true]; rfl
   | false =>
    rw [show (decide (errR o.rat = 0) && decide (o.a = 0) && decide (o.b = 0)) = (decide (errR o.rat = 0) && (decide (o.a = 0) && decide (o.b = 0))) from Bool.and_assoc _ _ _]
    rw [show (decide (o.a = 0) && decide (o.b = 0)) = false from by rw [← hab]; cases decide (o.a = 0) <;> rfl, Bool.and_false]; rfl
  ·exact key _ _ [_, _] (ar (.inl (of_decide_eq_true k3)))
  ·exact key _ _ [_, _] (ar (.inr (.inl (of_decide_eq_true k4))))
  ·exact key _ _ [_, _] (ar (.inr (.inr (.inl (of_decide_eq_true k5)))))
  ·exact key _ _ [_, _] (ar (.inr (.inr (.inr (of_decide_eq_true k6)))))
  ·have k1 := of_decide_eq_false k1
   have k2 := of_decide_eq_false k2
   have k3 := of_decide_eq_false k3
   have k4 := of_decide_eq_false k4
   have k5 := of_decide_eq_false k5
   have k6 := of_decide_eq_false k6
   have := key false [.box [.int .i64 n, opS ops], .box [.int .i64 n, opS ops], .box [.int .u8 o.kind, .int .i64 o.a, .int .i64 o.b, .str o.rat]] [.box [.int .i64 n, opS ops], .box [.int .u8 o.kind, .int .i64 o.a, .int .i64 o.b, .str o.rat]] (by unfold okOp; rw [if_neg k1, if_neg k2, if_neg (by omega)])
   exact ⟨fun _ => this.1 rfl, fun h => (by cases h)⟩
 ·have hge : i = ops.length := by have := of_decide_eq_false hge; omega
  subst hge
  rw [hck, if_pos hio] at hq
  exact RetR.scal hq rfl (by simp [resV])
noncomputable def GU3 : Nat → Option Ctr := fun f => if f = 42 then some (Wc) else if f = 70 then some (YV) else if f = 71 then some (za5) else if f = 72 then some (zc4) else none
theorem zef : ∀ g c, GU3 g = some c → zg Tryz.prog g c := okIf uY (okIf zbc (okIf Up (okIf zba (zp))))
noncomputable def JM : Ctr := inlC Tryz.prog GU3 100 Tryz.f44
theorem Q9 : zg Tryz.prog 44 JM := wP hmix zef rfl rfl
def Wz : Ctr := ctrP true (fun p : Tp × List (List UInt8) => [p.1.av, ratS p.2]) (fun p => zh p.1 = 0 ∧ (p.2.length : Int) = p.1.n ∧ allQ p.2) (fun p r => r = runF p.2 p.1.ops []) (fun _ (r : List (List UInt8) × Int) => (.tup [.osl 0 1 0 r.1.length, .int .i64 r.2], [.arr r.1.length 1 (ratG r.1)]))
def StRu (inp l : List (List UInt8)) (i : Nat) : KV := [(1, ratS inp), (2, .ptr 0 0), (6, .osl 1 1 0 l.length), (7, .int .i64 (i : Int))]
def HtRu (n : Int) (ops : List TOp) (l : List (List UInt8)) : Heap := [.box [.int .i64 n, opS ops], .arr l.length 1 (ratG l)]
theorem zb9 {l : List (List UInt8)} {v : List UInt8} {g : Nat → Nat → AV} (h : eqG l.length 1 g (ratG l)) : eqG (l.length + 1) 1 (appG l.length g (zj (zf 1 [.str v]) 0)) (ratG (l ++ [v])) := by
 intro j o hj ho
 have ho : o = 0 := by omega
 subst ho
 simp only [appG]
 split
 ·rename_i h1
  rw [h j 0 h1 (by omega)]
  simp only [ratG, List.getD, List.getElem?_append_left h1]
 ·have : j = l.length := by omega
  subst this
  simp [zj, zf, ratG, List.getD]
theorem UU {ctr : Ctr} {Q : AV × Heap → Prop} {l : List (List UInt8)} {e : Int} {h : Heap} (i : Nat) (hi : h[i]? = some (.arr l.length 1 (ratG l))) (hq : Q (.tup [ratS l, .int .i64 e], [])) : RetR ctr 0 Q [.osl i 1 0 l.length, .int .i64 e] h := by
 refine RetR.out0 hq (fun _ => ?_) ?_
 ·simp only [resV, new2, List.mem_cons, List.not_mem_nil, or_false, forall_eq_or_imp, forall_eq, new1]
  refine ⟨fun _ => ?_, rfl⟩
  simp only [exp0, zC, frz1, jA, hi, if_true, Xx]
  intro j o hj ho
  rfl
 ·simp only [resV, exp2, List.map_cons, List.map_nil, exp1]
  refine ⟨?_, ⟨rfl, rfl⟩, trivial⟩
  simp only [exp0, zC, frz1, jA, hi, if_true]
  exact ⟨rfl, rfl, fun j o _ _ => by simp [zj]⟩
noncomputable def GU4 : Nat → Option Ctr := fun f => if f = 44 then some (JM) else none
theorem zaj : ∀ g c, GU4 g = some c → zg Tryz.prog g c := okIf Q9 (zp)
theorem XQ : zg Tryz.prog 43 Wz := by
 refine Zc (fn := Tryz.f43) (c := Tryz.f43.body.getD .skip) rfl rfl rfl fun p hp O w0 Q hq => ?_
 obtain ⟨⟨n, ops⟩, inp⟩ := p
 obtain ⟨hc, hn, hqi⟩ := hp
 replace hq := hq _ rfl
 simp only at hc hn hqi hq
 refine zd.run hmix zaj [1, 2, 6, 7] 400 (T := .leaf (.loop (Prod.fst (lps K43 0)) (Prod.snd (lps K43 0)) [(1, .sl inp.length 1 (ratG inp)), (2, .ptr 0 0), (6, .nils), (7, .int .i64 0)] [.box [.int .i64 n, .sl ops.length 4 (opG ops)]])) (by kernel_rfl) ?_
 simp only [Tree.holds, ze]
 obtain ⟨c1, c2, c3, c4, c5⟩ := qw.1 hc
 simp only at c1 c2 c3 c4 c5
 refine zd.up [(1, ratG [])] (StRu inp [] 0) (HbRn n ops) (by simp [StRu, ratS, upKV, upA2, upA1, upA0]) (by simp [HbRn, opS, upH, upB, upL1, upA1, upA0]) (by kernel_rfl) (by kernel_rfl) ?_
 refine zd.loop (ι := {p : Nat × List (List UInt8) // p.1 ≤ ops.length ∧ p.2.length = p.1 ∧ allQ p.2 ∧ runF inp (ops.drop p.1) p.2 = runF inp ops []}) (fun p => StRu inp p.1.2 p.1.1) (fun p => HtRu n ops p.1.2) (fun p => ops.length - p.1.1) ⟨(0, []), Nat.zero_le _, rfl, fun x hx => absurd hx (by simp), by simp⟩ 0 ?_ ?_ (by kernel_rfl)
 ·exact ⟨by simp [StRu, ratS, zc], by simp [HtRu, HbRn, vM, opS, zc], by kernel_rfl, Nat.zero_le _⟩
 rintro ⟨⟨i, l⟩, hil, hll, hlq, hlr⟩
 simp only at hil hll hlq hlr
 refine zd.run hmix zaj [1, 2, 6, 7] 400 (T := .ite (decide ((↑i : Int) < ops.length)) (.side ((0 : Int) ≤ i ∧ (↑i : Int) < ops.length) (.ite (decide (TOp.kind (List.getD ops (Int.toNat (↑i : Int)) TOp.nil) = (1 : Int))) (.side ((0 : Int) ≤ TOp.a (List.getD ops (Int.toNat (↑i : Int)) TOp.nil) ∧ TOp.a (List.getD ops (Int.toNat (↑i : Int)) TOp.nil) < (↑inp.length : Int)) (.ite false (.leaf (.ret [.nils, .int .i64 0] [.box [.int .i64 n, .sl ops.length 4 (opG ops)], .arr l.length 1 (ratG l), .box [.int .u8 (TOp.kind (List.getD ops (Int.toNat (↑i : Int)) TOp.nil)), .int .i64 (TOp.a (List.getD ops (Int.toNat (↑i : Int)) TOp.nil)), .int .i64 (TOp.b (List.getD ops (Int.toNat (↑i : Int)) TOp.nil)), .str (TOp.rat (List.getD ops (Int.toNat (↑i : Int)) TOp.nil))]])) (.side (0 = 0 ∧ l.length ≤ l.length ∧ (l.length + 1) * 16 ≤ 140737488355328) (.side (inR .i64 ((↑i : Int) + (1 : Int))) (.leaf (.back 0 [(1, .sl inp.length 1 (ratG inp)), (2, .ptr 0 0), (6, .osl 1 1 0 (l.length + 1)), (7, .int .i64 ((↑i : Int) + (1 : Int)))] [.box [.int .i64 n, .sl ops.length 4 (opG ops)], .arr (l.length + 1) 1 (appG l.length (ratG l) (zj (zf 1 [.str (List.getD inp (Int.toNat (TOp.a (List.getD ops (Int.toNat (↑i : Int)) TOp.nil))) [])]) 0)), .box [.int .u8 (TOp.kind (List.getD ops (Int.toNat (↑i : Int)) TOp.nil)), .int .i64 (TOp.a (List.getD ops (Int.toNat (↑i : Int)) TOp.nil)), .int .i64 (TOp.b (List.getD ops (Int.toNat (↑i : Int)) TOp.nil)), .str (TOp.rat (List.getD ops (Int.toNat (↑i : Int)) TOp.nil))], .arr 1 1 (zf 1 [.str (List.getD inp (Int.toNat (TOp.a (List.getD ops (Int.toNat (↑i : Int)) TOp.nil))) [])])])))))) (.ite (decide (TOp.kind (List.getD ops (Int.toNat (↑i : Int)) TOp.nil) = (2 : Int))) (.ite false (.leaf (.ret [.nils, .int .i64 0] [.box [.int .i64 n, .sl ops.length 4 (opG ops)], .arr l.length 1 (ratG l), .box [.int .u8 (TOp.kind (List.getD ops (Int.toNat (↑i : Int)) TOp.nil)), .int .i64 (TOp.a (List.getD ops (Int.toNat (↑i : Int)) TOp.nil)), .int .i64 (TOp.b (List.getD ops (Int.toNat (↑i : Int)) TOp.nil)), .str (TOp.rat (List.getD ops (Int.toNat (↑i : Int)) TOp.nil))]])) (.side (0 = 0 ∧ l.length ≤ l.length ∧ (l.length + 1) * 16 ≤ 140737488355328) (.side (inR .i64 ((↑i : Int) + (1 : Int))) (.leaf (.back 0 [(1, .sl inp.length 1 (ratG inp)), (2, .ptr 0 0), (6, .osl 1 1 0 (l.length + 1)), (7, .int .i64 ((↑i : Int) + (1 : Int)))] [.box [.int .i64 n, .sl ops.length 4 (opG ops)], .arr (l.length + 1) 1 (appG l.length (ratG l) (zj (zf 1 [.str (TOp.rat (List.getD ops (Int.toNat (↑i : Int)) TOp.nil))]) 0)), .box [.int .u8 (TOp.kind (List.getD ops (Int.toNat (↑i : Int)) TOp.nil)), .int .i64 (TOp.a (List.getD ops (Int.toNat (↑i : Int)) TOp.nil)), .int .i64 (TOp.b (List.getD ops (Int.toNat (↑i : Int)) TOp.nil)), .str (TOp.rat (List.getD ops (Int.toNat (↑i : Int)) TOp.nil))], .arr 1 1 (zf 1 [.str (TOp.rat (List.getD ops (Int.toNat (↑i : Int)) TOp.nil))])]))))) (.side ((0 : Int) ≤ TOp.a (List.getD ops (Int.toNat (↑i : Int)) TOp.nil) ∧ TOp.a (List.getD ops (Int.toNat (↑i : Int)) TOp.nil) < (↑l.length : Int)) (.side ((0 : Int) ≤ TOp.b (List.getD ops (Int.toNat (↑i : Int)) TOp.nil) ∧ TOp.b (List.getD ops (Int.toNat (↑i : Int)) TOp.nil) < (↑l.length : Int)) (.ite (decide (TOp.kind (List.getD ops (Int.toNat (↑i : Int)) TOp.nil) = (3 : Int))) (.ex (fun (x : List UInt8 × List UInt8) => eqL [AV.str (List.getD l (0 + Int.toNat (TOp.a (List.getD ops (Int.toNat (↑i : Int)) TOp.nil))) []), AV.str (List.getD l (0 + Int.toNat (TOp.b (List.getD ops (Int.toNat (↑i : Int)) TOp.nil))) [])] [AV.str x.1, AV.str x.2] ∧ x.1.length < 549755813888 ∧ x.2.length < 549755813888) fun n_1 => .all (fun (r : List UInt8 × Int) => r = addR n_1.1 n_1.2) fun n_2 => .ite (!decide (n_2.2 = 0)) (.leaf (.ret [.nils, .int .i64 n_2.2] [.box [.int .i64 n, .sl ops.length 4 (opG ops)], .arr l.length 1 (ratG l), .box [.int .u8 (TOp.kind (List.getD ops (Int.toNat (↑i : Int)) TOp.nil)), .int .i64 (TOp.a (List.getD ops (Int.toNat (↑i : Int)) TOp.nil)), .int .i64 (TOp.b (List.getD ops (Int.toNat (↑i : Int)) TOp.nil)), .str (TOp.rat (List.getD ops (Int.toNat (↑i : Int)) TOp.nil))]])) (.side (0 = 0 ∧ l.length ≤ l.length ∧ (l.length + 1) * 16 ≤ 140737488355328) (.side (inR .i64 ((↑i : Int) + (1 : Int))) (.leaf (.back 0 [(1, .sl inp.length 1 (ratG inp)), (2, .ptr 0 0), (6, .osl 1 1 0 (l.length + 1)), (7, .int .i64 ((↑i : Int) + (1 : Int)))] [.box [.int .i64 n, .sl ops.length 4 (opG ops)], .arr (l.length + 1) 1 (appG l.length (ratG l) (zj (zf 1 [.str n_2.1]) 0)), .box [.int .u8 (TOp.kind (List.getD ops (Int.toNat (↑i : Int)) TOp.nil)), .int .i64 (TOp.a (List.getD ops (Int.toNat (↑i : Int)) TOp.nil)), .int .i64 (TOp.b (List.getD ops (Int.toNat (↑i : Int)) TOp.nil)), .str (TOp.rat (List.getD ops (Int.toNat (↑i : Int)) TOp.nil))], .arr 1 1 (zf 1 [.str n_2.1])]))))) (.ite (decide (TOp.kind (List.getD ops (Int.toNat (↑i : Int)) TOp.nil) = (4 : Int))) (.ex (fun (x : List UInt8 × List UInt8) => eqL [AV.str (List.getD l (0 + Int.toNat (TOp.a (List.getD ops (Int.toNat (↑i : Int)) TOp.nil))) []), AV.str (List.getD l (0 + Int.toNat (TOp.b (List.getD ops (Int.toNat (↑i : Int)) TOp.nil))) [])] [AV.str x.1, AV.str x.2] ∧ x.1.length < 274877906944 ∧ x.2.length < 274877906944) fun n_1 => .all (fun (r : List UInt8 × Int) => r = subR n_1.1 n_1.2) fun n_2 => .ite (!decide (n_2.2 = 0)) (.leaf (.ret [.nils, .int .i64 n_2.2] [.box [.int .i64 n, .sl ops.length 4 (opG ops)], .arr l.length 1 (ratG l), .box [.int .u8 (TOp.kind (List.getD ops (Int.toNat (↑i : Int)) TOp.nil)), .int .i64 (TOp.a (List.getD ops (Int.toNat (↑i : Int)) TOp.nil)), .int .i64 (TOp.b (List.getD ops (Int.toNat (↑i : Int)) TOp.nil)), .str (TOp.rat (List.getD ops (Int.toNat (↑i : Int)) TOp.nil))]])) (.side (0 = 0 ∧ l.length ≤ l.length ∧ (l.length + 1) * 16 ≤ 140737488355328) (.side (inR .i64 ((↑i : Int) + (1 : Int))) (.leaf (.back 0 [(1, .sl inp.length 1 (ratG inp)), (2, .ptr 0 0), (6, .osl 1 1 0 (l.length + 1)), (7, .int .i64 ((↑i : Int) + (1 : Int)))] [.box [.int .i64 n, .sl ops.length 4 (opG ops)], .arr (l.length + 1) 1 (appG l.length (ratG l) (zj (zf 1 [.str n_2.1]) 0)), .box [.int .u8 (TOp.kind (List.getD ops (Int.toNat (↑i : Int)) TOp.nil)), .int .i64 (TOp.a (List.getD ops (Int.toNat (↑i : Int)) TOp.nil)), .int .i64 (TOp.b (List.getD ops (Int.toNat (↑i : Int)) TOp.nil)), .str (TOp.rat (List.getD ops (Int.toNat (↑i : Int)) TOp.nil))], .arr 1 1 (zf 1 [.str n_2.1])]))))) (.ite (decide (TOp.kind (List.getD ops (Int.toNat (↑i : Int)) TOp.nil) = (5 : Int))) (.ex (fun (x : List UInt8 × List UInt8) => eqL [AV.str (List.getD l (0 + Int.toNat (TOp.a (List.getD ops (Int.toNat (↑i : Int)) TOp.nil))) []), AV.str (List.getD l (0 + Int.toNat (TOp.b (List.getD ops (Int.toNat (↑i : Int)) TOp.nil))) [])] [AV.str x.1, AV.str x.2] ∧ x.1.length < 549755813888 ∧ x.2.length < 549755813888) fun n_1 => .all (fun (r : List UInt8 × Int) => r = mulR n_1.1 n_1.2) fun n_2 => .ite (!decide (n_2.2 = 0)) (.leaf (.ret [.nils, .int .i64 n_2.2] [.box [.int .i64 n, .sl ops.length 4 (opG ops)], .arr l.length 1 (ratG l), .box [.int .u8 (TOp.kind (List.getD ops (Int.toNat (↑i : Int)) TOp.nil)), .int .i64 (TOp.a (List.getD ops (Int.toNat (↑i : Int)) TOp.nil)), .int .i64 (TOp.b (List.getD ops (Int.toNat (↑i : Int)) TOp.nil)), .str (TOp.rat (List.getD ops (Int.toNat (↑i : Int)) TOp.nil))]])) (.side (0 = 0 ∧ l.length ≤ l.length ∧ (l.length + 1) * 16 ≤ 140737488355328) (.side (inR .i64 ((↑i : Int) + (1 : Int))) (.leaf (.back 0 [(1, .sl inp.length 1 (ratG inp)), (2, .ptr 0 0), (6, .osl 1 1 0 (l.length + 1)), (7, .int .i64 ((↑i : Int) + (1 : Int)))] [.box [.int .i64 n, .sl ops.length 4 (opG ops)], .arr (l.length + 1) 1 (appG l.length (ratG l) (zj (zf 1 [.str n_2.1]) 0)), .box [.int .u8 (TOp.kind (List.getD ops (Int.toNat (↑i : Int)) TOp.nil)), .int .i64 (TOp.a (List.getD ops (Int.toNat (↑i : Int)) TOp.nil)), .int .i64 (TOp.b (List.getD ops (Int.toNat (↑i : Int)) TOp.nil)), .str (TOp.rat (List.getD ops (Int.toNat (↑i : Int)) TOp.nil))], .arr 1 1 (zf 1 [.str n_2.1])]))))) (.ex (fun (x : List UInt8 × List UInt8) => eqL [AV.str (List.getD l (0 + Int.toNat (TOp.a (List.getD ops (Int.toNat (↑i : Int)) TOp.nil))) []), AV.str (List.getD l (0 + Int.toNat (TOp.b (List.getD ops (Int.toNat (↑i : Int)) TOp.nil))) [])] [AV.str x.1, AV.str x.2] ∧ x.1.length < 549755813888 ∧ x.2.length < 549755813888) fun n_1 => .all (fun (r : List UInt8 × Int) => r = divR n_1.1 n_1.2) fun n_2 => .ite (!decide (n_2.2 = 0)) (.leaf (.ret [.nils, .int .i64 n_2.2] [.box [.int .i64 n, .sl ops.length 4 (opG ops)], .arr l.length 1 (ratG l), .box [.int .u8 (TOp.kind (List.getD ops (Int.toNat (↑i : Int)) TOp.nil)), .int .i64 (TOp.a (List.getD ops (Int.toNat (↑i : Int)) TOp.nil)), .int .i64 (TOp.b (List.getD ops (Int.toNat (↑i : Int)) TOp.nil)), .str (TOp.rat (List.getD ops (Int.toNat (↑i : Int)) TOp.nil))]])) (.side (0 = 0 ∧ l.length ≤ l.length ∧ (l.length + 1) * 16 ≤ 140737488355328) (.side (inR .i64 ((↑i : Int) + (1 : Int))) (.leaf (.back 0 [(1, .sl inp.length 1 (ratG inp)), (2, .ptr 0 0), (6, .osl 1 1 0 (l.length + 1)), (7, .int .i64 ((↑i : Int) + (1 : Int)))] [.box [.int .i64 n, .sl ops.length 4 (opG ops)], .arr (l.length + 1) 1 (appG l.length (ratG l) (zj (zf 1 [.str n_2.1]) 0)), .box [.int .u8 (TOp.kind (List.getD ops (Int.toNat (↑i : Int)) TOp.nil)), .int .i64 (TOp.a (List.getD ops (Int.toNat (↑i : Int)) TOp.nil)), .int .i64 (TOp.b (List.getD ops (Int.toNat (↑i : Int)) TOp.nil)), .str (TOp.rat (List.getD ops (Int.toNat (↑i : Int)) TOp.nil))], .arr 1 1 (zf 1 [.str n_2.1])]))))))))))))) (.leaf (.ret [.osl 1 1 0 l.length, .int .i64 0] [.box [.int .i64 n, .sl ops.length 4 (opG ops)], .arr l.length 1 (ratG l)]))) (by kernel_rfl) ?_
 simp only [Tree.holds, ze, inR, lo, hi, Int.toNat_natCast]
 refine ⟨fun hlt => ?_, fun hge => ?_⟩
 ·have hlt : i < ops.length := by have := of_decide_eq_true hlt; omega
  have hok := Z7 c5 hlt
  rw [Qz hlt] at hlr
  obtain ⟨o, ho⟩ : ∃ o, ops.getD i TOp.nil = o := ⟨_, rfl⟩
  rw [ho] at hlr hok
  simp only [ho, Nat.zero_add]
  simp only at hok
  have hst := uX hqi hn hlq (by rw [hll]; exact hok)
  have bad : ∀ (e : Int) (h : Heap), (zB inp l o).2 = e → e ≠ 0 → RetR Wz 0 (upQ Q) [.nils, .int .i64 e] h := by
   rintro e h rfl hne
   rw [if_pos hne] at hlr
   rw [← hlr] at hq
   exact Zh _ h hq
  have good : ∀ (v : List UInt8) (b : Heap), (zB inp l o).2 = 0 → (zB inp l o).1 = v → (True ∧ l.length ≤ l.length ∧ (l.length + 1) * 16 ≤ 140737488355328) ∧ (True ∧ l.length ≤ l.length ∧ (l.length + 1) * 16 ≤ 140737488355328 → (-9223372036854775808 ≤ (i : Int) + 1 ∧ (i : Int) + 1 ≤ 9223372036854775807) ∧ (-9223372036854775808 ≤ (i : Int) + 1 ∧ (i : Int) + 1 ≤ 9223372036854775807 → if True then
    ∃ x' : {p : Nat × List (List UInt8) // p.1 ≤ ops.length ∧ p.2.length = p.1 ∧ allQ p.2 ∧ runF inp (ops.drop p.1) p.2 = runF inp ops []}, ops.length - x'.1.1 < ops.length - i ∧
    LeK 0 Tryz.f43.ntmps [(1, ratS inp), (2, .ptr 0 0), (6, .osl 1 1 0 (l.length + 1)), (7, .int .i64 ((i : Int) + 1))] ([.box [.int .i64 n, opS ops], .arr (l.length + 1) 1 (appG l.length (ratG l) (zj (zf 1 [.str v]) 0))] ++ b) (StRu inp x'.1.2 x'.1.1) (HtRu n ops x'.1.2) else False)) := by
   rintro v b he rfl
   rw [if_neg (fun g => g he)] at hlr
   refine ⟨⟨trivial, Nat.le_refl _, by omega⟩, fun _ => ⟨by omega, fun _ => ?_⟩⟩
   rw [if_pos trivial]
   refine ⟨⟨(i + 1, l ++ [(zB inp l o).1]), hlt, by simp [hll], um hlq (hst he), hlr⟩, by show ops.length - (i + 1) < ops.length - i; omega, ?_, ?_, rfl, Nat.zero_le _⟩
   ·simp [StRu, ratS, zc]
   ·simp only [HtRu, List.cons_append]
    exact ⟨by simp [opS, zc], ⟨by simp, rfl, zb9 (zc _ _ _)⟩, by cases b <;> trivial⟩
  have la := Xz hlq
  have h1 := jT hok
  refine ⟨by omega, fun _ => ⟨fun k1 => ?_, fun k1 => ⟨fun k2 => ?_, fun k2 => ?_⟩⟩⟩
  ·have k1 := of_decide_eq_true k1
   refine ⟨by omega, fun _ => ⟨fun h => (by cases h), fun _ => ?_⟩⟩
   exact good _ [_, _] (by unfold zB; rw [if_pos k1]) (by unfold zB; rw [if_pos k1])
  ·have k1 := of_decide_eq_false k1
   have k2 := of_decide_eq_true k2
   refine ⟨fun h => (by cases h), fun _ => ?_⟩
   exact good _ [_, _] (by unfold zB; rw [if_neg k1, if_pos k2]) (by unfold zB; rw [if_neg k1, if_pos k2])
  ·have k1 := of_decide_eq_false k1
   have k2 := of_decide_eq_false k2
   have hv : zB inp l o = arR o.kind (l.getD o.a.toNat []) (l.getD o.b.toNat []) := by unfold zB; rw [if_neg k1, if_neg k2]
   have fin : ∀ (r : List UInt8 × Int) (h : Heap), r = arR o.kind (l.getD o.a.toNat []) (l.getD o.b.toNat []) → ((!decide (r.2 = 0)) = true → RetR Wz 0 (upQ Q) [.nils, .int .i64 r.2] h) ∧ ((!decide (r.2 = 0)) = false → (zB inp l o).2 = 0 ∧ (zB inp l o).1 = r.1) := by
    rintro r h hr
    rw [← hv] at hr
    exact ⟨fun h1 => bad _ _ (by rw [hr]) (by simpa using h1), fun h1 => ⟨by rw [← hr]; simpa using h1, by rw [hr]⟩⟩
   refine ⟨by omega, fun _ => ⟨by omega, fun _ => ?_⟩⟩
   have l1 := la o.a.toNat
   have l2 := la o.b.toNat
   refine ⟨fun k3 => ?_, fun k3 => ⟨fun k4 => ?_, fun k4 => ⟨fun k5 => ?_, fun k5 => ?_⟩⟩⟩
   all_goals
    refine ⟨(l.getD o.a.toNat [], l.getD o.b.toNat []), ⟨⟨rfl, rfl, trivial⟩, by show (l.getD o.a.toNat []).length < _; omega, by show (l.getD o.b.toNat []).length < _; omega⟩, ⟨_, rfl⟩, ?_⟩
    rintro _ rfl
   ·have k3 := of_decide_eq_true k3
    refine (fun q => ⟨(fin _ _ q).1, fun h => good _ [_, _] ((fin _ [] q).2 h).1 ((fin _ [] q).2 h).2⟩) ?_
    unfold arR; rw [if_pos k3]
   ·have k3 := of_decide_eq_false k3
    have k4 := of_decide_eq_true k4
    refine (fun q => ⟨(fin _ _ q).1, fun h => good _ [_, _] ((fin _ [] q).2 h).1 ((fin _ [] q).2 h).2⟩) ?_
    unfold arR; rw [if_neg k3, if_pos k4]
   ·have k3 := of_decide_eq_false k3
    have k4 := of_decide_eq_false k4
    have k5 := of_decide_eq_true k5
    refine (fun q => ⟨(fin _ _ q).1, fun h => good _ [_, _] ((fin _ [] q).2 h).1 ((fin _ [] q).2 h).2⟩) ?_
    unfold arR; rw [if_neg k3, if_neg k4, if_pos k5]
   ·have k3 := of_decide_eq_false k3
    have k4 := of_decide_eq_false k4
    have k5 := of_decide_eq_false k5
    refine (fun q => ⟨(fin _ _ q).1, fun h => good _ [_, _] ((fin _ [] q).2 h).1 ((fin _ [] q).2 h).2⟩) ?_
    unfold arR; rw [if_neg k3, if_neg k4, if_neg k5]
 ·have hge : i = ops.length := by have := of_decide_eq_false hge; omega
  subst hge
  rw [WI] at hlr
  rw [← hlr] at hq
  simp only at hq
  refine RetR.outs [1] rfl rfl (.inl hq) (fun _ => ⟨?_, ?_⟩) ?_ ?_ rfl
  ·simp [resV, new2, new1, new0, zC, zX]
  ·simp only [List.mem_cons, List.not_mem_nil, or_false, forall_eq]
   exact Zb (zc _ _ _)
  ·simp [resV, exp2, exp1, exp0, zC, ren0, eqA2, eqL1]
  ·exact ⟨⟨rfl, rfl, zc _ _ _⟩, trivial⟩
end Go.Proofs.Tryz
end

/- The reference's tapes: runs with their checks, values, degrees; comparisons, bounds. -/
section
set_option maxRecDepth 100000
open Go Go.Sx Go.Proofs Go.Nov
namespace Go.Proofs.Tryz
attribute [local simp] eqKV eqA eqA0 eqH eqB eqL eqL0
noncomputable def K60 : List Go.Sx.Item := [.code (Tryz.f60.body.getD .skip)]
noncomputable def K13 : List Go.Sx.Item := [.code (Tryz.f13.body.getD .skip)]
noncomputable def K12 : List Go.Sx.Item := [.code (Tryz.f12.body.getD .skip)]
noncomputable def K4 : List Go.Sx.Item := [.code (Tryz.f4.body.getD .skip)]
def midT (t : Tp) : Prop := t.ops.length < 2 ^ 40 ∧ ∀ j, j < t.ops.length → (t.ops.getD j TOp.nil).rat.length < 2 ^ 40
def midR (l : List (List UInt8)) : Prop := l.length < 2 ^ 40 ∧ ∀ j, j < l.length → (l.getD j []).length < 2 ^ 40
def za9 : Ctr := ctrP true (fun p : Tp × List (List UInt8) => [p.1.av, ratS p.2]) (fun p => midT p.1 ∧ midR p.2) (fun p r => r = trun p.1 p.2) (fun _ (r : List (List UInt8) × Int) => (.tup [ratS r.1, .int .i64 r.2], []))
def StRn (inp : List (List UInt8)) (e : Int) (i : Nat) : KV := [(1, ratS inp), (2, .ptr 0 0), (6, .int .i64 e), (7, .int .i64 (i : Int)), (26, .undef), (27, .undef)]
noncomputable def GU5 : Nat → Option Ctr := fun f => if f = 84 then some (Wf) else if f = 41 then some (xc) else if f = 43 then some (Wz) else none
theorem Uy : ∀ g c, GU5 g = some c → zg Tryz.prog g c := okIf Y1 (okIf k8 (okIf XQ (zp)))
theorem zcs : zg Tryz.prog 60 za9 := by
 refine zi (fn := Tryz.f60) (c := Tryz.f60.body.getD .skip) rfl rfl rfl fun p hp O w0 Q hq => ?_
 obtain ⟨⟨n, ops⟩, inp⟩ := p
 obtain ⟨hs, hr⟩ := hp
 replace hq := hq _ rfl
 simp only at hs hr hq
 refine zd.run hmix Uy [1, 2, 6, 7, 26, 27] 400 (T := .ex (fun (x : Tp) => eqL [AV.agg [AV.int .i64 n, AV.sl ops.length 4 (opG ops)]] [AV.agg [AV.int .i64 (Tp.n x), AV.sl (List.length (Tp.ops x)) 4 (opG (Tp.ops x))]] ∧ List.length (Tp.ops x) < 1099511627776 ∧ ∀ (j : Nat), j < List.length (Tp.ops x) → List.length (TOp.rat (List.getD (Tp.ops x) j TOp.nil)) < 1099511627776) fun n_1 => .all (fun (r : Int) => r = zh n_1) fun n_2 => .ite (bif decide (n_2 = 0) then !decide ((↑inp.length : Int) = n) else false) (.leaf (.loop (Prod.fst (lps K60 0)) (Prod.snd (lps K60 0)) [(1, .sl inp.length 1 (ratG inp)), (2, .ptr 0 0), (6, .int .i64 2), (7, .int .i64 0), (26, .undef), (27, .undef)] [.box [.int .i64 n, .sl ops.length 4 (opG ops)]])) (.leaf (.loop (Prod.fst (lps K60 0)) (Prod.snd (lps K60 0)) [(1, .sl inp.length 1 (ratG inp)), (2, .ptr 0 0), (6, .int .i64 n_2), (7, .int .i64 0), (26, .undef), (27, .undef)] [.box [.int .i64 n, .sl ops.length 4 (opG ops)]]))) (by kernel_rfl) ?_
 simp only [Tree.holds, ze]
 have key : ∀ e : Int, (if e ≠ 0 then e else vP inp) = preT ⟨n, ops⟩ inp → zd Tryz.prog Tryz.f60 O 0 w0 [] (fun _ _ _ => False) (RetR za9 0 Q) (.code (.loop (lps K60 0).1) :: (lps K60 0).2) (mk Tryz.f60.ntmps (StRn inp e 0) (HbRn n ops)) := by
  intro e he0
  refine zd.loop (ι := {p : Nat × Int // p.1 ≤ inp.length ∧ (if p.2 ≠ 0 then p.2 else vP (inp.drop p.1)) = preT ⟨n, ops⟩ inp}) (fun p => StRn inp p.1.2 p.1.1) (fun _ => HbRn n ops) (fun p => inp.length - p.1.1) ⟨(0, e), Nat.zero_le _, by simpa using he0⟩ 0 ?_ ?_ (by kernel_rfl)
  ·exact ⟨by simp [StRn, ratS, zc], by simp [HbRn, opS, zc], by kernel_rfl, Nat.zero_le _⟩
  rintro ⟨⟨i, e⟩, hil, hie⟩
  simp only at hil hie
  refine zd.run hmix Uy [1, 2, 6, 7, 26, 27] 400 (T := .ite (bif decide ((↑i : Int) < inp.length) then decide (e = 0) else false) (.side ((0 : Int) ≤ i ∧ (↑i : Int) < inp.length) (.ex (fun (x : List UInt8) => eqL [AV.str (List.getD inp (Int.toNat (↑i : Int)) [])] [AV.str x] ∧ x.length < 1099511627776) fun n_1 => .all (fun (r : Int) => r = errR n_1) fun n_2 => .side (inR .i64 ((↑i : Int) + (1 : Int))) (.leaf (.back 0 [(1, .sl inp.length 1 (ratG inp)), (2, .ptr 0 0), (6, .int .i64 n_2), (7, .int .i64 ((↑i : Int) + (1 : Int))), (26, .undef), (27, .undef)] [.box [.int .i64 n, .sl ops.length 4 (opG ops)]])))) (.ite (!decide (e = 0)) (.leaf (.ret [.nils, .int .i64 e] [.box [.int .i64 n, .sl ops.length 4 (opG ops)]])) (.ex (fun (x : Tp × List (List UInt8)) => eqL [AV.agg [AV.int .i64 n, AV.sl ops.length 4 (opG ops)], AV.sl inp.length 1 (ratG inp)] [AV.agg [AV.int .i64 (Tp.n x.1), AV.sl (List.length (Tp.ops x.1)) 4 (opG (Tp.ops x.1))], AV.sl x.2.length 1 (ratG x.2)] ∧ zh x.1 = 0 ∧ (↑x.2.length : Int) = Tp.n x.1 ∧ allQ x.2) fun n_1 => .all (fun (r : List (List UInt8) × Int) => r = runF n_1.2 (Tp.ops n_1.1) []) fun n_2 => .leaf (.ret [.osl 1 1 0 n_2.1.length, .int .i64 n_2.2] [.box [.int .i64 n, .sl ops.length 4 (opG ops)], .arr n_2.1.length 1 (ratG n_2.1)])))) (by kernel_rfl) ?_
  simp only [Tree.holds, ze, inR, lo, hi, Int.toNat_natCast]
  refine ⟨fun h => ?_, fun h => ?_⟩
  ·have g : i < inp.length ∧ e = 0 := by
    rw [andt] at h
    exact ⟨by have := of_decide_eq_true h.1; omega, of_decide_eq_true h.2⟩
   obtain ⟨hlt, rfl⟩ := g
   have hlen := hr.2 i hlt
   refine ⟨by omega, fun _ => ⟨inp.getD i [], ⟨⟨rfl, trivial⟩, by omega⟩, ⟨_, rfl⟩, ?_⟩⟩
   rintro _ rfl
   have hl := hr.1
   refine ⟨by omega, fun _ => ?_⟩
   rw [if_pos trivial]
   rw [if_neg (by simp), Zy hlt] at hie
   exact ⟨⟨(i + 1, errR (inp.getD i [])), hlt, hie⟩, by show inp.length - (i + 1) < inp.length - i; omega, by simp [StRn, ratS, zc], by simp [HbRn, opS, zc], by kernel_rfl, Nat.zero_le _⟩
  ·refine ⟨fun h2 => ?_, fun h2 => ?_⟩
   ·have h2 : e ≠ 0 := by simpa using h2
    rw [if_pos h2] at hie
    have e2 : trun ⟨n, ops⟩ inp = ([], e) := by unfold trun; rw [← hie, if_pos h2]
    rw [e2] at hq
    exact RetR.out0 hq (fun _ => by simp [resV, new2, new1, new0, zX]) (by simp [resV, exp2, exp1, exp0, ren0, eqA2, eqL1, ratS])
   ·have h2 : e = 0 := by simpa using h2
    subst h2
    have hge : i = inp.length := by
     rcases Nat.lt_or_ge i inp.length with g | g
     ·rw [decide_eq_true (show (i : Int) < inp.length by omega)] at h; cases h
     ·omega
    subst hge
    rw [if_neg (by simp), List.drop_length] at hie
    have hpre : preT ⟨n, ops⟩ inp = 0 := hie.symm
    obtain ⟨p1, p2, p3⟩ := Jp.1 hpre
    refine ⟨(⟨n, ops⟩, inp), ⟨⟨⟨⟨rfl, rfl⟩, ⟨rfl, rfl, zc _ _ _⟩, trivial⟩, ⟨rfl, rfl, zc _ _ _⟩, trivial⟩, p1, p2, p3⟩, ⟨_, rfl⟩, ?_⟩
    rintro _ rfl
    have e2 : trun ⟨n, ops⟩ inp = runF inp ops [] := by unfold trun; rw [if_neg (fun q => q hpre)]
    rw [e2] at hq
    exact UU 1 rfl hq
 have e0 : eqL [.agg [.int .i64 n, opS ops]] [(Tp.mk n ops).av] := ⟨⟨⟨rfl, rfl⟩, ⟨rfl, rfl, zc _ _ _⟩, trivial⟩, trivial⟩
 refine ⟨⟨n, ops⟩, ⟨e0, hs⟩, ⟨_, rfl⟩, ?_⟩
 rintro _ rfl
 refine ⟨fun h => key 2 ?_, fun h => key _ ?_⟩
 ·have g : zh ⟨n, ops⟩ = 0 ∧ (inp.length : Int) ≠ n := by
   by_cases g1 : zh ⟨n, ops⟩ = 0
   ·refine ⟨g1, fun g2 => ?_⟩
    rw [decide_eq_true g1, decide_eq_true g2] at h; cases h
   ·rw [decide_eq_false g1] at h; cases h
  unfold preT
  rw [if_pos (show (2 : Int) ≠ 0 by decide), if_neg (fun q => q g.1), if_pos g.2]
 ·unfold preT
  by_cases g1 : zh ⟨n, ops⟩ = 0
  ·have g2 : (inp.length : Int) = n := by
    by_cases g2 : (inp.length : Int) = n
    ·exact g2
    ·rw [decide_eq_true g1, decide_eq_false g2] at h; cases h
   rw [if_neg (fun q => q g1), if_neg (fun q => q g1), if_neg (fun q => q g2)]
  ·rw [if_pos g1, if_pos g1]
def zdo : Ctr := ctrP true (fun p : Tp × List (List UInt8) => [p.1.av, ratS p.2]) (fun p => midT p.1 ∧ midR p.2) (fun p r => r = zx p.1 p.2) (fun _ (r : List UInt8 × Int) => (.tup [.str r.1, .int .i64 r.2], []))
noncomputable def GU6 : Nat → Option Ctr := fun f => if f = 60 then some (za9) else none
theorem zei : ∀ g c, GU6 g = some c → zg Tryz.prog g c := okIf zcs (zp)
theorem zcf : zg Tryz.prog 39 zdo := by
 refine zi (fn := Tryz.f39) (c := Tryz.f39.body.getD .skip) rfl rfl rfl fun p hp O w0 Q hq => ?_
 obtain ⟨⟨n, ops⟩, inp⟩ := p
 replace hq := hq _ rfl
 simp only at hp hq
 refine zd.run hmix zei [] 400 (T := .ex (fun (x : Tp × List (List UInt8)) => eqL [AV.agg [AV.int .i64 n, AV.sl ops.length 4 (opG ops)], AV.sl inp.length 1 (ratG inp)] [AV.agg [AV.int .i64 (Tp.n x.1), AV.sl (List.length (Tp.ops x.1)) 4 (opG (Tp.ops x.1))], AV.sl x.2.length 1 (ratG x.2)] ∧ midT x.1 ∧ midR x.2) fun n_1 => .all (fun (r : List (List UInt8) × Int) => r = trun n_1.1 n_1.2) fun n_2 => .ite (!decide (n_2.2 = 0)) (.leaf (.ret [.str (Array.toList #[]), .int .i64 n_2.2] [.box [.int .i64 n, .sl ops.length 4 (opG ops)]])) (.side (inR .i64 ((↑n_2.1.length : Int) - (1 : Int))) (.side ((0 : Int) ≤ n_2.1.length - (1 : Int) ∧ (↑n_2.1.length : Int) - (1 : Int) < n_2.1.length) (.leaf (.ret [.str (List.getD n_2.1 (Int.toNat ((↑n_2.1.length : Int) - (1 : Int))) []), .int .i64 0] [.box [.int .i64 n, .sl ops.length 4 (opG ops)]]))))) (by kernel_rfl) ?_
 simp only [Tree.holds, ze]
 refine ⟨(⟨n, ops⟩, inp), ⟨⟨⟨⟨rfl, rfl⟩, ⟨rfl, rfl, zc _ _ _⟩, trivial⟩, ⟨rfl, rfl, zc _ _ _⟩, trivial⟩, hp.1, hp.2⟩, ⟨_, rfl⟩, ?_⟩
 intro r hr
 replace hr : r = trun ⟨n, ops⟩ inp := hr
 unfold zx qQ at hq
 rw [← hr] at hq
 simp only [inR, lo, hi]
 refine ⟨fun h => ?_, fun h => ?_⟩
 ·have h : r.2 ≠ 0 := by simpa using h
  rw [if_pos h] at hq
  exact RetR.scal hq rfl (by simp [resV])
 ·have h : r.2 = 0 := by simpa using h
  rw [if_neg (fun g => g h)] at hq
  obtain ⟨c, _, l⟩ := W0 (hr ▸ h)
  rw [← hr] at l
  obtain ⟨c1, _, _, c4, _⟩ := qw.1 c
  refine ⟨by omega, fun _ => ⟨by omega, fun _ => ?_⟩⟩
  have e : ((r.1.length : Int) - 1).toNat = r.1.length - 1 := by omega
  rw [e]
  exact RetR.scal hq rfl (by simp [resV])
theorem ye {α : Type} {l m : List α} {i : Nat} {z : α} (h1 : i < l.length) (h2 : i < m.length) (h : l.take i = m.take i) (hg : l.getD i z = m.getD i z) : l.take (i + 1) = m.take (i + 1) := by
 rw [List.take_add_one, List.take_add_one, h]
 congr 1
 simp only [List.getD, List.getElem?_eq_getElem h1, List.getElem?_eq_getElem h2, Option.getD_some] at hg ⊢
 rw [hg]
theorem zcy (l : List TOp) (j o : Nat) (ho : o < 4) : zX (opG l j o) = true := by
 match o, ho with
 | 0, _ => rfl
 | 1, _ => rfl
 | 2, _ => rfl
 | 3, _ => rfl
def StSr (l m : List (List UInt8)) (i : Nat) : KV := [(0, ratS l), (1, ratS m), (5, .int .i64 (i : Int))]
def Kb : Ctr := ctrP true (fun p : List (List UInt8) × List (List UInt8) => [ratS p.1, ratS p.2]) (fun p => p.1.length < 2 ^ 60) (fun p r => (r = true ↔ p.1 = p.2)) (fun _ (r : Bool) => (.bool r, []))
theorem Ux : zg Tryz.prog 13 Kb := by
 refine zi (fn := Tryz.f13) (c := Tryz.f13.body.getD .skip) rfl rfl rfl fun p hp O w0 Q hq => ?_
 obtain ⟨l, m⟩ := p
 simp only at hp hq
 refine zd.run hmix z3 [0, 1, 5] 400 (T := .ite (!decide ((↑l.length : Int) = m.length)) (.leaf (.ret [.bool false] [])) (.leaf (.loop (Prod.fst (lps K13 0)) (Prod.snd (lps K13 0)) [(0, .sl l.length 1 (ratG l)), (1, .sl m.length 1 (ratG m)), (5, .int .i64 0)] []))) (by kernel_rfl) ?_
 simp only [Tree.holds, ze]
 have no : ∀ h, l ≠ m → RetR Kb 0 Q [.bool false] h := fun h g => RetR.scal (hq false (by simp [g])) rfl (by simp [resV])
 refine ⟨fun h => no _ ?_, fun h => ?_⟩
 ·intro g; rw [g] at h; simp at h
 have hlm : l.length = m.length := Int.ofNat.inj (show (l.length : Int) = m.length by simpa using h)
 refine zd.loop (ι := {i : Nat // i ≤ l.length ∧ l.take i = m.take i}) (fun i => StSr l m i.1) (fun _ => []) (fun i => l.length - i.1) ⟨0, Nat.zero_le _, by simp⟩ 0 ?_ ?_ (by kernel_rfl)
 ·exact ⟨by simp [StSr, ratS, zc], by simp, by kernel_rfl, Nat.zero_le _⟩
 rintro ⟨i, hil, hie⟩
 refine zd.run hmix z3 [0, 1, 5] 400 (T := .ite (decide ((↑i : Int) < l.length)) (.side ((0 : Int) ≤ i ∧ (↑i : Int) < l.length) (.side ((0 : Int) ≤ i ∧ (↑i : Int) < m.length) (.ite (!decide (List.getD l (Int.toNat (↑i : Int)) [] = List.getD m (Int.toNat (↑i : Int)) [])) (.leaf (.ret [.bool false] [])) (.side (inR .i64 ((↑i : Int) + (1 : Int))) (.leaf (.back 0 [(0, .sl l.length 1 (ratG l)), (1, .sl m.length 1 (ratG m)), (5, .int .i64 ((↑i : Int) + (1 : Int)))] [])))))) (.leaf (.ret [.bool true] []))) (by kernel_rfl) ?_
 simp only [Tree.holds, ze, inR, lo, hi, Int.toNat_natCast, Nat.zero_add]
 refine ⟨fun hlt => ?_, fun hge => ?_⟩
 ·have hlt : i < l.length := by have := of_decide_eq_true hlt; omega
  refine ⟨by omega, fun _ => ⟨by omega, fun _ => ⟨fun h1 => no _ ?_, fun h1 => ⟨by omega, fun _ => ?_⟩⟩⟩⟩
  ·intro g; rw [g] at h1; simp at h1
  ·have h1 : l.getD i [] = m.getD i [] := by
    cases hd : decide (l.getD i [] = m.getD i []) with
    | true => exact of_decide_eq_true hd
    | false => rw [hd] at h1; cases h1
   rw [if_pos trivial]
   refine ⟨⟨i + 1, hlt, ye hlt (by omega) hie h1⟩, by show l.length - (i + 1) < l.length - i; omega, by simp [StSr, ratS, zc], by simp, by kernel_rfl, Nat.zero_le _⟩
 ·have hge : i = l.length := by have := of_decide_eq_false hge; omega
  subst hge
  rw [List.take_length, hlm, List.take_length] at hie
  exact RetR.scal (hq true (by simp [hie])) rfl (by simp [resV])
def StSt (i : Nat) : KV := [(2, .ptr 0 0), (3, .ptr 1 0), (5, .int .i64 (i : Int))]
def HtSt (n n' : Int) (l m : List TOp) : Heap := [.box [.int .i64 n, opS l], .box [.int .i64 n', opS m]]
def V9 : Ctr := ctrP true (fun p : Tp × Tp => [p.1.av, p.2.av]) (fun p => p.1.ops.length < 2 ^ 60) (fun p r => (r = true ↔ p.1 = p.2)) (fun _ (r : Bool) => (.bool r, []))
theorem Un : zg Tryz.prog 12 V9 := by
 refine zi (fn := Tryz.f12) (c := Tryz.f12.body.getD .skip) rfl rfl rfl fun p hp O w0 Q hq => ?_
 obtain ⟨⟨n, l⟩, ⟨n', m⟩⟩ := p
 simp only at hp hq
 refine zd.run hmix z3 [2, 3, 5] 400 (T := .ite (bif !decide (n = n') then true else !decide ((↑l.length : Int) = m.length)) (.leaf (.ret [.bool false] [.box [.int .i64 n, .sl l.length 4 (opG l)], .box [.int .i64 n', .sl m.length 4 (opG m)]])) (.leaf (.loop (Prod.fst (lps K12 0)) (Prod.snd (lps K12 0)) [(2, .ptr 0 0), (3, .ptr 1 0), (5, .int .i64 0)] [.box [.int .i64 n, .sl l.length 4 (opG l)], .box [.int .i64 n', .sl m.length 4 (opG m)]]))) (by kernel_rfl) ?_
 simp only [Tree.holds, ze]
 have no : ∀ h, Tp.mk n l ≠ Tp.mk n' m → RetR V9 0 Q [.bool false] h := fun h g => RetR.scal (hq false (by simp [g])) rfl (by simp [resV])
 refine ⟨fun h => no _ ?_, fun h => ?_⟩
 ·intro g; cases g; simp at h
 rw [orf] at h
 have hn : n = n' := by simpa using h.1
 have hlm : l.length = m.length := Int.ofNat.inj (show (l.length : Int) = m.length by simpa using h.2)
 subst hn
 refine zd.loop (ι := {i : Nat // i ≤ l.length ∧ l.take i = m.take i}) (fun i => StSt i.1) (fun _ => HtSt n n l m) (fun i => l.length - i.1) ⟨0, Nat.zero_le _, by simp⟩ 0 ?_ ?_ (by kernel_rfl)
 ·exact ⟨by simp [StSt], by simp [HtSt, opS, zc], by kernel_rfl, Nat.zero_le _⟩
 rintro ⟨i, hil, hie⟩
 refine zd.run hmix z3 [2, 3, 5] 400 (T := .ite (decide ((↑i : Int) < l.length)) (.side ((0 : Int) ≤ i ∧ (↑i : Int) < l.length) (.side ((0 : Int) ≤ i ∧ (↑i : Int) < m.length) (.ite (!(decide (TOp.kind (List.getD l (Int.toNat (↑i : Int)) TOp.nil) = TOp.kind (List.getD m (Int.toNat (↑i : Int)) TOp.nil)) && (decide (TOp.a (List.getD l (Int.toNat (↑i : Int)) TOp.nil) = TOp.a (List.getD m (Int.toNat (↑i : Int)) TOp.nil)) && (decide (TOp.b (List.getD l (Int.toNat (↑i : Int)) TOp.nil) = TOp.b (List.getD m (Int.toNat (↑i : Int)) TOp.nil)) && (decide (TOp.rat (List.getD l (Int.toNat (↑i : Int)) TOp.nil) = TOp.rat (List.getD m (Int.toNat (↑i : Int)) TOp.nil)) && true))))) (.leaf (.ret [.bool false] [.box [.int .i64 n, .sl l.length 4 (opG l)], .box [.int .i64 n, .sl m.length 4 (opG m)]])) (.side (inR .i64 ((↑i : Int) + (1 : Int))) (.leaf (.back 0 [(2, .ptr 0 0), (3, .ptr 1 0), (5, .int .i64 ((↑i : Int) + (1 : Int)))] [.box [.int .i64 n, .sl l.length 4 (opG l)], .box [.int .i64 n, .sl m.length 4 (opG m)]])))))) (.leaf (.ret [.bool true] [.box [.int .i64 n, .sl l.length 4 (opG l)], .box [.int .i64 n, .sl m.length 4 (opG m)]]))) (by kernel_rfl) ?_
 simp only [Tree.holds, ze, inR, lo, hi, Int.toNat_natCast, Nat.zero_add]
 refine ⟨fun hlt => ?_, fun hge => ?_⟩
 ·have hlt : i < l.length := by have := of_decide_eq_true hlt; omega
  refine ⟨by omega, fun _ => ⟨by omega, fun _ => ⟨fun h1 => no _ ?_, fun h1 => ⟨by omega, fun _ => ?_⟩⟩⟩⟩
  ·intro g; cases g; simp at h1
  ·have h1 : l.getD i TOp.nil = m.getD i TOp.nil := by
    simp only [Bool.not_eq_false', Bool.and_eq_true, decide_eq_true_eq, and_true] at h1
    generalize l.getD i TOp.nil = x at h1 ⊢
    generalize m.getD i TOp.nil = y at h1 ⊢
    obtain ⟨a, b, c, d⟩ := x
    obtain ⟨a', b', c', d'⟩ := y
    simp only at h1
    obtain ⟨rfl, rfl, rfl, rfl⟩ := h1
    rfl
   rw [if_pos trivial]
   refine ⟨⟨i + 1, hlt, ye hlt (by omega) hie h1⟩, by show l.length - (i + 1) < l.length - i; omega, by simp [StSt], by simp [HtSt, opS, zc], by kernel_rfl, Nat.zero_le _⟩
 ·have hge : i = l.length := by have := of_decide_eq_false hge; omega
  subst hge
  rw [List.take_length, hlm, List.take_length] at hie
  exact RetR.scal (hq true (by simp [hie])) rfl (by simp [resV])
def zac : Ctr := ctrP true (fun t : Tp => [t.av]) (fun t => t.ops.length < 2 ^ 40) (fun _ (_ : Unit) => True) (fun t _ => (t.av, []))
theorem zax : zg Tryz.prog 5 zac := by
 refine zi (fn := Tryz.f5) (c := Tryz.f5.body.getD .skip) rfl rfl rfl fun p hp O w0 Q hq => ?_
 obtain ⟨n, l⟩ := p
 replace hq := hq () trivial
 simp only at hp hq
 refine zd.run hmix z3 [] 400 (T := .side (0 = 0 ∧ 0 ≤ 0 ∧ (0 + l.length) * 40 ≤ 140737488355328) (.leaf (.ret [.agg [.int .i64 n, .osl 2 4 0 (0 + l.length)]] [.box [.int .i64 n, .osl 2 4 0 (0 + l.length)], .box [.int .i64 n, .osl 2 4 0 (0 + l.length)], .arr (0 + l.length) 4 (appG 0 (zf 4 []) (opG l))]))) (by kernel_rfl) ?_
 simp only [Tree.holds, ze]
 refine ⟨⟨trivial, Nat.le_refl _, by omega⟩, fun _ => ?_⟩
 refine RetR.out0 hq (fun _ => ?_) ?_
 ·simp only [resV, new2, new1, List.mem_cons, List.not_mem_nil, or_false, forall_eq_or_imp, forall_eq]
  refine ⟨rfl, fun _ => ?_⟩
  simp only [exp0, zC, frz1, jA, List.getElem?_cons_succ, List.getElem?_cons_zero, if_true, Xx]
  intro j o hj ho
  simp only [zj, appG, Nat.zero_add, Nat.not_lt_zero, if_false, Nat.sub_zero]
  exact zcy _ _ _ ho
 ·simp only [resV, exp2, exp1, List.map_cons, List.map_nil]
  refine ⟨⟨rfl, rfl⟩, ?_, trivial⟩
  simp only [exp0, zC, frz1, jA, List.getElem?_cons_succ, List.getElem?_cons_zero, if_true]
  exact ⟨by simp, rfl, fun j o _ _ => by simp [zj, appG]⟩
def XJ (t : Tp) (l : List (List UInt8)) : Prop := t.ops.length ≤ 520 ∧ (t.ops.length ≤ 60 ∨ 500 < t.ops.length) ∧ l.length ≤ 60 ∧ (∀ j, j < t.ops.length → (t.ops.getD j TOp.nil).rat.length ≤ 200) ∧ ∀ j, j < l.length → (l.getD j []).length ≤ 200
def XP : Ctr := ctrP true (fun p : Tp × List (List UInt8) => [p.1.av, ratS p.2]) (fun p => qe p.1 ∧ qt p.2) (fun p r => r = false → XJ p.1 p.2) (fun _ (r : Bool) => (.bool r, []))
def StGr (m : List (List UInt8)) (i : Nat) : KV := [(1, ratS m), (2, .ptr 0 0), (5, .int .i64 (i : Int)), (6, .undef)]
def HtGr (n : Int) (l : List TOp) : Heap := [.box [.int .i64 n, opS l]]
def StGs (m : List (List UInt8)) (i : Nat) : KV := [(1, ratS m), (2, .undef), (5, .undef), (6, .int .i64 (i : Int))]
theorem Yw : zg Tryz.prog 4 XP := by
 refine zi (fn := Tryz.f4) (c := Tryz.f4.body.getD .skip) rfl rfl rfl fun p hp O w0 Q hq => ?_
 obtain ⟨⟨n, l⟩, m⟩ := p
 obtain ⟨h1, h2⟩ := hp
 simp only at h1 h2 hq
 refine zd.run hmix z3 [1, 2, 5, 6] 400 (T := .ite (bif bif bif decide ((60 : Int) < l.length) then decide ((↑l.length : Int) ≤ 500) else false then true else decide ((520 : Int) < l.length) then true else decide ((60 : Int) < m.length)) (.leaf (.ret [.bool true] [.box [.int .i64 n, .sl l.length 4 (opG l)]])) (.leaf (.loop (Prod.fst (lps K4 0)) (Prod.snd (lps K4 0)) [(1, .sl m.length 1 (ratG m)), (2, .ptr 0 0), (5, .int .i64 0), (6, .undef)] [.box [.int .i64 n, .sl l.length 4 (opG l)]]))) (by kernel_rfl) ?_
 simp only [Tree.holds, ze]
 refine ⟨fun h => RetR.scal (hq true (fun g => by cases g)) rfl (by simp [resV]), fun h => ?_⟩
 simp only [orf] at h
 have hfit : l.length ≤ 520 ∧ (l.length ≤ 60 ∨ 500 < l.length) ∧ m.length ≤ 60 := by
  obtain ⟨⟨ha, hb⟩, hc⟩ := h
  have hb := of_decide_eq_false hb
  have hc := of_decide_eq_false hc
  refine ⟨by omega, ?_, by omega⟩
  by_cases g : l.length ≤ 60
  ·exact .inl g
  ·rw [decide_eq_true (show (60 : Int) < l.length by omega)] at ha
   have ha : ¬ ((l.length : Int) ≤ 500) := by simpa using ha
   exact .inr (by omega)
 refine zd.loop (ι := {i : Nat // i ≤ l.length ∧ ∀ j, j < i → (l.getD j TOp.nil).rat.length ≤ 200}) (fun i => StGr m i.1) (fun _ => HtGr n l) (fun i => l.length - i.1) ⟨0, Nat.zero_le _, fun j q => absurd q (Nat.not_lt_zero j)⟩ 0 ?_ ?_ (by kernel_rfl)
 ·exact ⟨by simp [StGr, ratS, zc], by simp [HtGr, opS, zc], by kernel_rfl, Nat.zero_le _⟩
 rintro ⟨i, hil, hie⟩
 refine zd.run hmix z3 [1, 2, 5, 6] 400 (T := .ite (decide ((↑i : Int) < l.length)) (.side ((0 : Int) ≤ i ∧ (↑i : Int) < l.length) (.ite (decide ((200 : Int) < (↑(List.length (TOp.rat (List.getD l (Int.toNat (↑i : Int)) TOp.nil))) : Int))) (.leaf (.ret [.bool true] [.box [.int .i64 n, .sl l.length 4 (opG l)]])) (.side (inR .i64 ((↑i : Int) + (1 : Int))) (.leaf (.back 0 [(1, .sl m.length 1 (ratG m)), (2, .ptr 0 0), (5, .int .i64 ((↑i : Int) + (1 : Int))), (6, .undef)] [.box [.int .i64 n, .sl l.length 4 (opG l)]]))))) (.leaf (.loop (Prod.fst (lps (inside K4 0) 0)) (Prod.snd (lps (inside K4 0) 0)) [(1, .sl m.length 1 (ratG m)), (2, .ptr 0 0), (5, .int .i64 i), (6, .int .i64 0)] [.box [.int .i64 n, .sl l.length 4 (opG l)]]))) (by kernel_rfl) ?_
 simp only [Tree.holds, ze, inR, lo, hi, Int.toNat_natCast, Nat.zero_add]
 refine ⟨fun hlt => ?_, fun hge => ?_⟩
 ·have hlt : i < l.length := by have := of_decide_eq_true hlt; omega
  refine ⟨by omega, fun _ => ⟨fun _ => RetR.scal (hq true (fun g => by cases g)) rfl (by simp [resV]), fun h3 => ⟨by omega, fun _ => ?_⟩⟩⟩
  rw [if_pos trivial]
  have h3 := of_decide_eq_false h3
  refine ⟨⟨i + 1, hlt, fun j hj => ?_⟩, by show l.length - (i + 1) < l.length - i; omega, by simp [StGr, ratS, zc], by simp [HtGr, opS, zc], by kernel_rfl, Nat.zero_le _⟩
  rcases Nat.lt_or_ge j i with g | g
  ·exact hie j g
  ·obtain rfl : j = i := by omega
   omega
 have hge : i = l.length := by have := of_decide_eq_false hge; omega
 subst hge
 refine zd.loop (ι := {i : Nat // i ≤ m.length ∧ ∀ j, j < i → (m.getD j []).length ≤ 200}) (fun i => StGs m i.1) (fun _ => []) (fun i => m.length - i.1) ⟨0, Nat.zero_le _, fun j q => absurd q (Nat.not_lt_zero j)⟩ 0 ?_ ?_ (by kernel_rfl)
 ·exact ⟨by simp [StGs, ratS, zc], by simp, by kernel_rfl, Nat.zero_le _⟩
 rintro ⟨i, hil, hif⟩
 refine zd.run hmix z3 [1, 2, 5, 6] 400 (T := .ite (decide ((↑i : Int) < m.length)) (.side ((0 : Int) ≤ i ∧ (↑i : Int) < m.length) (.ite (decide ((200 : Int) < (↑(List.length (List.getD m (Int.toNat (↑i : Int)) [])) : Int))) (.leaf (.ret [.bool true] [])) (.side (inR .i64 ((↑i : Int) + (1 : Int))) (.leaf (.back 0 [(1, .sl m.length 1 (ratG m)), (2, .undef), (5, .undef), (6, .int .i64 ((↑i : Int) + (1 : Int)))] []))))) (.leaf (.ret [.bool false] []))) (by kernel_rfl) ?_
 simp only [Tree.holds, ze, inR, lo, hi, Int.toNat_natCast, Nat.zero_add]
 refine ⟨fun hlt => ?_, fun hge => ?_⟩
 ·have hlt : i < m.length := by have := of_decide_eq_true hlt; omega
  refine ⟨by omega, fun _ => ⟨fun _ => RetR.scal (hq true (fun g => by cases g)) rfl (by simp [resV]), fun h3 => ⟨by omega, fun _ => ?_⟩⟩⟩
  rw [if_pos trivial]
  have h3 := of_decide_eq_false h3
  refine ⟨⟨i + 1, hlt, fun j hj => ?_⟩, by show m.length - (i + 1) < m.length - i; omega, by simp [StGs, ratS, zc], by simp, by kernel_rfl, Nat.zero_le _⟩
  rcases Nat.lt_or_ge j i with g | g
  ·exact hif j g
  ·obtain rfl : j = i := by omega
   omega
 ·have hge : i = m.length := by have := of_decide_eq_false hge; omega
  subst hge
  exact RetR.scal (hq false (fun _ => ⟨hfit.1, hfit.2.1, hfit.2.2, hie, hif⟩)) rfl (by simp [resV])
end Go.Proofs.Tryz
end

/- Differences: one step of them, the value at shifted inputs. -/
section
set_option maxRecDepth 100000
open Go Go.Sx Go.Proofs Go.Nov
namespace Go.Proofs.Tryz
attribute [local simp] eqKV eqA eqA0 eqH eqB eqL eqL0
noncomputable def K18 : List Go.Sx.Item := [.code (Tryz.f18.body.getD .skip)]
noncomputable def GD1 : Nat → Option Ctr := fun f => if f = 24 then some (zb7) else if f = 17 then some (Vp) else if f = 27 then some (UJ) else if f = 31 then some (zbk) else none
theorem Qh : ∀ g c, GD1 g = some c → zg Tryz.prog g c := okIf Yb (okIf uU (okIf Xv (okIf Ye (zp))))
noncomputable def ddoI : Ctr := inlC Tryz.prog GD1 100 Tryz.f16
theorem zf6 : zg Tryz.prog 16 ddoI := wP hmix Qh rfl rfl
def HDf (t : Tp) (inp : List (List UInt8)) (e : Int) : Blk := .box [.int .i64 t.n, opS t.ops, ratS inp, .int .i64 e]
def datC : Ctr := ctrT false false (fun p : Tp × List (List UInt8) × Int × List UInt8 × List Int => [.ptr 0 0, .str p.2.2.2.1, .osl 1 1 0 p.2.2.2.2.length])
 (fun p => [HDf p.1 p.2.1 p.2.2.1, .arrI .i64 p.2.2.2.2.length (dgF p.2.2.2.2)])
 (fun p => zh p.1 = 0 ∧ (p.2.1.length : Int) = p.1.n ∧ allQ p.2.1 ∧ errR p.2.2.2.1 = 0 ∧ (∀ i ∈ p.2.2.2.2, 0 ≤ i ∧ i < p.1.n) ∧ p.2.2.2.2.length < 2 ^ 40)
 (fun p r => r = stpA p.2.2.1 (atT p.1 p.2.1 p.2.2.2.1 p.2.2.2.2)) (fun p (r : List UInt8 × Int) => (.str r.1, [HDf p.1 p.2.1 r.2, .arrI .i64 p.2.2.2.2.length (dgF p.2.2.2.2)]))
noncomputable def GD2 : Nat → Option Ctr := fun f => if f = 16 then some (ddoI) else if f = 38 then some (Vc) else if f = 37 then some (KP) else none
theorem zbr : ∀ g c, GD2 g = some c → zg Tryz.prog g c := okIf zf6 (okIf XE (okIf WZ (zp)))
theorem zal {t : Tp} {x : List (List UInt8)} {h : List UInt8} : atT t x h [] = qQ (runF x t.ops []) := rfl
theorem Ww {t : Tp} {x : List (List UInt8)} {h : List UInt8} {i : Int} {l : List Int} (g : (addR (x.getD i.toNat []) h).2 = 0) : atT t x h (i :: l) = atT t (x.set i.toNat (addR (x.getD i.toNat []) h).1) h l := by
 have e : shL h (i :: l) x = shL h l (x.set i.toNat (addR (x.getD i.toNat []) h).1) := if_neg (fun k => k g)
 unfold atT
 rw [e]
theorem WY {t : Tp} {x : List (List UInt8)} {h : List UInt8} {i : Int} {l : List Int} (g : (addR (x.getD i.toNat []) h).2 ≠ 0) : atT t x h (i :: l) = ([], (addR (x.getD i.toNat []) h).2) := by
 have e : shL h (i :: l) x = ([], (addR (x.getD i.toNat []) h).2) := if_pos g
 unfold atT
 rw [e, if_pos g]
theorem VM {x : List (List UInt8)} {v : List UInt8} {N i : Nat} (h : i < x.length) : eqG N 1 (tgS fun j => if j = i then v else rtF x j) (tgS (rtF (x.set i v))) := by
 intro j o _ _
 simp only [tgS, rtF]
 by_cases hji : j = i
 ·subst hji; rw [if_pos rfl]; simp [List.getD, h]
 ·rw [if_neg hji]; congr 1; simp only [List.getD]; rw [List.getElem?_set_ne (fun g => hji g.symm)]
def StAt (h : List UInt8) (N m i : Nat) : KV := [(0, .ptr 0 0), (1, .str h), (6, .str []), (7, .osl 2 1 0 N), (15, .osl 1 1 0 m), (16, .int .i64 (m : Int)), (17, .int .i64 (i : Int))]
def HtAt (t : Tp) (inp : List (List UInt8)) (pl : List Int) (e : Int) (N : Nat) (x : List (List UInt8)) : Heap := [HDf t inp e, .arrI .i64 pl.length (dgF pl), .arrS N (rtF x)]
theorem KK : zg Tryz.prog 18 datC := by
 refine jw (fn := Tryz.f18) (c := Tryz.f18.body.getD .skip) rfl rfl rfl (fun h => by cases h) fun p hp O w0 σ0 Q hl0 hq => ?_
 obtain ⟨⟨n, ops⟩, inp, e, h, pl⟩ := p
 replace hq := hq _ rfl
 obtain ⟨h1, h2, h3, h4, h5, h6⟩ := hp
 simp only at h1 h2 h3 h4 h5 h6 hq
 refine zd.run hmix zbr [0, 1, 6, 7, 15, 16, 17] 400 (T := .side (inp.length * 16 ≤ 140737488355328) (.leaf (.loop (Prod.fst (lps K18 0)) (Prod.snd (lps K18 0)) [(0, .ptr 0 0), (1, .str h), (6, .str (Array.toList #[])), (7, .osl 2 1 0 inp.length), (15, .osl 1 1 0 pl.length), (16, .int .i64 pl.length), (17, .int .i64 0)] [.box [.int .i64 n, .sl ops.length 4 (opG ops), .sl inp.length 1 (ratG inp), .int .i64 e], Blk.arrI .i64 pl.length (dgF pl), .arr inp.length 1 (ratG inp)]))) (by kernel_rfl) ?_
 simp only [Tree.holds, ze]
 obtain ⟨c1, c2, c3, c4, c5⟩ := qw.1 h1
 simp only at c1 c2 c3 c4 c5
 refine ⟨by omega, fun _ => ?_⟩
 generalize hF : stpA e (atT ⟨n, ops⟩ inp h pl) = F at hq
 refine zd.loop (ι := {p : Nat × Int × List (List UInt8) // p.1 ≤ pl.length ∧ p.2.2.length = inp.length ∧ (p.2.1 = 0 → allQ p.2.2 ∧ atT ⟨n, ops⟩ p.2.2 h (pl.drop p.1) = F) ∧ (p.2.1 ≠ 0 → F = ([], p.2.1))}) (fun p => StAt h inp.length pl.length p.1.1) (fun p => HtAt ⟨n, ops⟩ inp pl p.1.2.1 inp.length p.1.2.2) (fun p => pl.length - p.1.1) ⟨(0, e, inp), Nat.zero_le _, rfl, fun g => ⟨h3, ?_⟩, fun g => ?_⟩ 0 ?_ ?_ (by kernel_rfl)
 ·rw [← hF]; unfold stpA; rw [if_neg (fun k => k g)]; rfl
 ·rw [← hF]; unfold stpA; rw [if_pos g]
 ·exact ⟨by simp [StAt], by simp [HtAt, HDf, opS, ratS, zc]; exact fun _ _ _ _ => rfl, by kernel_rfl, by show 2 ≤ 3; decide⟩
 rintro ⟨⟨i, e', x⟩, hil, hxl, hx0, hx1⟩
 simp only at hil hxl hx0 hx1
 refine zd.run hmix zbr [0, 1, 6, 7, 15, 16, 17] 400 (T := .ite (decide ((↑i : Int) < pl.length)) (.side ((0 : Int) ≤ i ∧ (↑i : Int) < pl.length) (.side ((0 : Int) ≤ dgF pl (0 + Int.toNat (↑i : Int)) ∧ dgF pl (0 + Int.toNat (↑i : Int)) < (↑inp.length : Int)) (.ite (decide (e' = (0 : Int))) (.ex (fun (x_1 : List UInt8 × List UInt8) => eqL [AV.str (rtF x (0 + Int.toNat (dgF pl (0 + Int.toNat (↑i : Int))))), AV.str h] [AV.str x_1.1, AV.str x_1.2] ∧ x_1.1.length < 2305843009213693952 ∧ x_1.2.length < 2305843009213693952) fun n_1 => .all (fun (r : List UInt8 × Int) => r = addR n_1.1 n_1.2) fun n_2 => .side ((0 : Int) ≤ dgF pl (0 + Int.toNat (↑i : Int)) ∧ dgF pl (0 + Int.toNat (↑i : Int)) < (↑inp.length : Int)) (.side (inR .i64 ((↑i : Int) + (1 : Int))) (.leaf (.back 0 [(0, .ptr 0 0), (1, .str h), (6, .str []), (7, .osl 2 1 0 inp.length), (15, .osl 1 1 0 pl.length), (16, .int .i64 pl.length), (17, .int .i64 ((↑i : Int) + (1 : Int)))] [.box [.int .i64 n, .sl ops.length 4 (opG ops), .sl inp.length 1 (ratG inp), .int .i64 n_2.2], Blk.arrI .i64 pl.length (dgF pl), Blk.arrS inp.length fun (j : Nat) => if j = 0 + Int.toNat (dgF pl (0 + Int.toNat (↑i : Int))) then n_2.1 else rtF x j])))) (.side ((0 : Int) ≤ dgF pl (0 + Int.toNat (↑i : Int)) ∧ dgF pl (0 + Int.toNat (↑i : Int)) < (↑inp.length : Int)) (.side (inR .i64 ((↑i : Int) + (1 : Int))) (.leaf (.back 0 [(0, .ptr 0 0), (1, .str h), (6, .str []), (7, .osl 2 1 0 inp.length), (15, .osl 1 1 0 pl.length), (16, .int .i64 pl.length), (17, .int .i64 ((↑i : Int) + (1 : Int)))] [.box [.int .i64 n, .sl ops.length 4 (opG ops), .sl inp.length 1 (ratG inp), .int .i64 e'], Blk.arrI .i64 pl.length (dgF pl), Blk.arrS inp.length fun (j : Nat) => if j = 0 + Int.toNat (dgF pl (0 + Int.toNat (↑i : Int))) then Array.toList #[] else rtF x j]))))))) (.ite (decide (e' = (0 : Int))) (.ex (fun (x_1 : Tp × List (List UInt8)) => eqL [AV.agg [AV.int .i64 n, AV.sl ops.length 4 (opG ops)], AV.sl inp.length 1 (zj (fun (j x_2 : Nat) => AV.str (rtF x j)) 0)] [AV.agg [AV.int .i64 x_1.1.n, AV.sl x_1.1.ops.length 4 (opG x_1.1.ops)], AV.sl x_1.2.length 1 (ratG x_1.2)] ∧ zh x_1.1 = 0 ∧ (↑x_1.2.length : Int) = Tp.n x_1.1 ∧ allQ x_1.2) fun n_1 => .all (fun (r : List (List UInt8) × Int) => r = runF n_1.2 n_1.1.ops []) fun n_2 => .ite (!decide (n_2.2 = 0)) (.leaf (.ret [.str (Array.toList #[])] [.box [.int .i64 n, .sl ops.length 4 (opG ops), .sl inp.length 1 (ratG inp), .int .i64 n_2.2], Blk.arrI .i64 pl.length (dgF pl), Blk.arrS inp.length (rtF x), .arr n_2.1.length 1 (ratG n_2.1)])) (.side (inR .i64 ((↑n_2.1.length : Int) - (1 : Int))) (.side ((0 : Int) ≤ n_2.1.length - (1 : Int) ∧ (↑n_2.1.length : Int) - (1 : Int) < n_2.1.length) (.leaf (.ret [.str (List.getD n_2.1 (0 + Int.toNat ((↑n_2.1.length : Int) - (1 : Int))) [])] [.box [.int .i64 n, .sl ops.length 4 (opG ops), .sl inp.length 1 (ratG inp), .int .i64 0], Blk.arrI .i64 pl.length (dgF pl), Blk.arrS inp.length (rtF x), .arr n_2.1.length 1 (ratG n_2.1)]))))) (.leaf (.ret [.str []] [.box [.int .i64 n, .sl ops.length 4 (opG ops), .sl inp.length 1 (ratG inp), .int .i64 e'], Blk.arrI .i64 pl.length (dgF pl), Blk.arrS inp.length (rtF x)])))) (by kernel_rfl) ?_
 simp only [Tree.holds, ze, inR, lo, hi, Int.toNat_natCast, Nat.zero_add]
 have fin : ∀ (r : List UInt8 × Int) (b : Heap), r = F → RetR datC 2 Q [.str r.1] ([.box [.int .i64 n, opS ops, ratS inp, .int .i64 r.2], .arrI .i64 pl.length (dgF pl)] ++ b) := by
  intro r b hr
  rw [← hr] at hq
  exact RetR.keep [0, 1] rfl (by simp) (by show ∀ j, j < 2 → _; decide) rfl hq (by simp [resV, exp2, exp1, exp0, ren0, eqA2, eqL1]) (by simp [expH, expB, exp1, exp0, ren0, HDf, opS, ratS, zc]) rfl
 refine ⟨fun hlt => ?_, fun hge => ?_⟩
 ·have hlt : i < pl.length := by have := of_decide_eq_true hlt; omega
  have hpl : 0 ≤ dgF pl i ∧ dgF pl i < n := h5 _ (by simp [dgF, List.getD, hlt])
  have hd : pl.drop i = dgF pl i :: pl.drop (i + 1) := by rw [List.drop_eq_getElem_cons hlt]; simp [dgF, List.getD, hlt]
  refine ⟨by omega, fun _ => ⟨by omega, fun _ => ⟨fun he => ?_, fun he => ?_⟩⟩⟩
  ·have he := of_decide_eq_true he
   obtain ⟨hxq, hxF⟩ := hx0 he
   have hq1 := Xz hxq (dgF pl i).toNat
   have hq2 := zR h4
   refine ⟨(rtF x (dgF pl i).toNat, h), ⟨by simp, by show (x.getD _ []).length < _; omega, by show h.length < _; omega⟩, ⟨_, rfl⟩, ?_⟩
   intro r hr
   replace hr : r = addR (x.getD (dgF pl i).toNat []) h := hr
   refine ⟨by omega, fun _ => ⟨by omega, fun _ => ?_⟩⟩
   rw [if_pos trivial]
   rw [hd] at hxF
   refine ⟨⟨(i + 1, r.2, x.set (dgF pl i).toNat r.1), hlt, by simp [hxl], fun g => ?_, fun g => ?_⟩, by show pl.length - (i + 1) < pl.length - i; omega, by simp [StAt], ?_, by kernel_rfl, by show 2 ≤ 3; decide⟩
   ·simp only at g
    rw [hr] at g
    rw [Ww g, ← hr] at hxF
    refine ⟨xZ hxq ?_ _, hxF⟩
    rw [hr]
    exact (xp (qS hxq (by omega)) h4 g).1
   ·simp only at g
    rw [hr] at g
    rw [WY g, ← hr] at hxF
    exact hxF.symm
   ·simp [HtAt, HDf, opS, ratS, zc]
    exact VM (by omega)
  ·have he := of_decide_eq_false he
   have hF1 := hx1 he
   refine ⟨by omega, fun _ => ⟨by omega, fun _ => ?_⟩⟩
   rw [if_pos trivial]
   refine ⟨⟨(i + 1, e', x.set (dgF pl i).toNat []), hlt, by simp [hxl], fun g => absurd g he, fun _ => hF1⟩, by show pl.length - (i + 1) < pl.length - i; omega, by simp [StAt], ?_, by kernel_rfl, by show 2 ≤ 3; decide⟩
   simp [HtAt, HDf, opS, ratS, zc]
   exact VM (by omega)
 ·have hge : i = pl.length := by have := of_decide_eq_false hge; omega
  subst hge
  refine ⟨fun he => ?_, fun he => ?_⟩
  ·have he := of_decide_eq_true he
   obtain ⟨hxq, hxF⟩ := hx0 he
   rw [List.drop_length, zal] at hxF
   refine ⟨(⟨n, ops⟩, x), ⟨⟨⟨⟨rfl, rfl⟩, ⟨rfl, rfl, zc _ _ _⟩, trivial⟩, ⟨hxl.symm, rfl, fun j o _ _ => by simp [zj, rtF, ratG]⟩, trivial⟩, h1, by show (x.length : Int) = n; omega, hxq⟩, ⟨_, rfl⟩, ?_⟩
   intro r hr
   replace hr : r = runF x ops [] := hr
   rw [← hr] at hxF
   unfold qQ at hxF
   refine ⟨fun g => ?_, fun g => ?_⟩
   ·have g : r.2 ≠ 0 := by simpa using g
    rw [if_pos g] at hxF
    exact fin ([], r.2) _ hxF
   ·have g : r.2 = 0 := by simpa using g
    rw [if_neg (fun k => k g)] at hxF
    have hl : r.1.length = ops.length := by
     obtain ⟨_, _, a3⟩ := xJ (n := n) hxq (by omega) ops [] _ (fun y hy => absurd hy (by simp)) (jk c5 ops 0 (List.drop_zero)) (show runF x ops [] = (r.1, 0) by rw [← hr, ← g])
     simpa using a3
    refine ⟨by omega, fun _ => ⟨by omega, fun _ => ?_⟩⟩
    have e2 : ((r.1.length : Int) - 1).toNat = r.1.length - 1 := by omega
    rw [e2]
    exact fin (_, 0) _ hxF
  ·have he := of_decide_eq_false he
   exact fin ([], e') _ (hx1 he).symm
def opN (k : Int) : Nat := if k = 3 then 24 else if k = 4 then 17 else if k = 5 then 27 else 31
def ddoC : Ctr := ctrT false false (fun p : Tp × List (List UInt8) × Int × Int × List UInt8 × List UInt8 => [.ptr 0 0, .fn (opN p.2.2.2.1) [] [], .str p.2.2.2.2.1, .str p.2.2.2.2.2])
 (fun p => [HDf p.1 p.2.1 p.2.2.1]) (fun p => (p.2.2.2.1 = 3 ∨ p.2.2.2.1 = 4 ∨ p.2.2.2.1 = 5 ∨ p.2.2.2.1 = 6) ∧ p.2.2.2.2.1.length < 2 ^ 61 ∧ p.2.2.2.2.2.length < 2 ^ 61)
 (fun p r => r = stp p.2.2.1 (arR p.2.2.2.1) p.2.2.2.2.1 p.2.2.2.2.2) (fun p (r : List UInt8 × Int) => (.str r.1, [HDf p.1 p.2.1 r.2]))
theorem xr : zg Tryz.prog 16 ddoC := by
 refine jw (fn := Tryz.f16) (c := Tryz.f16.body.getD .skip) rfl rfl rfl (fun h => by cases h) fun p hp O w0 σ0 Q hl0 hq => ?_
 obtain ⟨⟨n, ops⟩, inp, e, k, a, b⟩ := p
 replace hq := hq _ rfl
 obtain ⟨h1, h2, h3⟩ := hp
 simp only at h1 h2 h3 hq
 have fin : ∀ (r : List UInt8 × Int) (b' : Heap), stp e (arR k) a b = r → RetR ddoC 1 Q [.str r.1] ([.box [.int .i64 n, opS ops, ratS inp, .int .i64 r.2]] ++ b') := by
  intro r b' hr
  rw [hr] at hq
  exact RetR.keep [0] rfl (by simp) (by show ∀ j, j < 1 → _; decide) rfl hq (by simp [resV, exp2, exp1, exp0, ren0, eqA2, eqL1]) (by simp [expH, expB, exp1, exp0, ren0, HDf, opS, ratS, zc]) rfl
 have no : ∀ b' : Heap, decide (e = 0) = false → RetR ddoC 1 Q [.str []] ([.box [.int .i64 n, opS ops, ratS inp, .int .i64 e]] ++ b') := fun b' g => fin ([], e) b' (by unfold stp; rw [if_pos (of_decide_eq_false g)])
 have yes : ∀ (b' : Heap) (r : List UInt8 × Int), decide (e = 0) = true → r = arR k a b → RetR ddoC 1 Q [.str r.1] ([.box [.int .i64 n, opS ops, ratS inp, .int .i64 r.2]] ++ b') := fun b' r g hr => fin r b' (by unfold stp; rw [if_neg (fun q => q (of_decide_eq_true g)), hr])
 rcases h1 with rfl | rfl | rfl | rfl
 ·refine zd.run hmix Qh [] 400 (T := .ite (decide (e = 0)) (.ex (fun (x : List UInt8 × List UInt8) => eqL [AV.str a, AV.str b] [AV.str x.1, AV.str x.2] ∧ x.1.length < 2305843009213693952 ∧ x.2.length < 2305843009213693952) fun n_1 => .all (fun (r : List UInt8 × Int) => r = addR n_1.1 n_1.2) fun n_2 => .leaf (.ret [.str n_2.1] [.box [.int .i64 n, .sl ops.length 4 (opG ops), .sl inp.length 1 (ratG inp), .int .i64 n_2.2]])) (.leaf (.ret [.str (Array.toList #[])] [.box [.int .i64 n, .sl ops.length 4 (opG ops), .sl inp.length 1 (ratG inp), .int .i64 e]]))) (by kernel_rfl) ?_
  simp only [Tree.holds, ze]
  exact ⟨fun g => ⟨(a, b), ⟨by simp, h2, h3⟩, ⟨_, rfl⟩, fun r hr => yes [] r g hr⟩, fun g => no [] g⟩
 ·refine zd.run hmix Qh [] 400 (T := .ite (decide (e = 0)) (.ex (fun (x : List UInt8 × List UInt8) => eqL [AV.str a, AV.str b] [AV.str x.1, AV.str x.2] ∧ x.1.length < 2305843009213693952 ∧ x.2.length < 2305843009213693952) fun n_1 => .all (fun (r : List UInt8 × Int) => r = subR n_1.1 n_1.2) fun n_2 => .leaf (.ret [.str n_2.1] [.box [.int .i64 n, .sl ops.length 4 (opG ops), .sl inp.length 1 (ratG inp), .int .i64 n_2.2]])) (.leaf (.ret [.str (Array.toList #[])] [.box [.int .i64 n, .sl ops.length 4 (opG ops), .sl inp.length 1 (ratG inp), .int .i64 e]]))) (by kernel_rfl) ?_
  simp only [Tree.holds, ze]
  exact ⟨fun g => ⟨(a, b), ⟨by simp, h2, h3⟩, ⟨_, rfl⟩, fun r hr => yes [] r g hr⟩, fun g => no [] g⟩
 ·refine zd.run hmix Qh [] 400 (T := .ite (decide (e = 0)) (.ex (fun (x : List UInt8 × List UInt8) => eqL [AV.str a, AV.str b] [AV.str x.1, AV.str x.2] ∧ x.1.length < 2305843009213693952 ∧ x.2.length < 2305843009213693952) fun n_1 => .all (fun (r : List UInt8 × Int) => r = mulR n_1.1 n_1.2) fun n_2 => .leaf (.ret [.str n_2.1] [.box [.int .i64 n, .sl ops.length 4 (opG ops), .sl inp.length 1 (ratG inp), .int .i64 n_2.2]])) (.leaf (.ret [.str (Array.toList #[])] [.box [.int .i64 n, .sl ops.length 4 (opG ops), .sl inp.length 1 (ratG inp), .int .i64 e]]))) (by kernel_rfl) ?_
  simp only [Tree.holds, ze]
  exact ⟨fun g => ⟨(a, b), ⟨by simp, h2, h3⟩, ⟨_, rfl⟩, fun r hr => yes [] r g hr⟩, fun g => no [] g⟩
 ·refine zd.run hmix Qh [] 400 (T := .ite (decide (e = 0)) (.ex (fun (x : List UInt8 × List UInt8) => eqL [AV.str a, AV.str b] [AV.str x.1, AV.str x.2] ∧ x.1.length < 2305843009213693952 ∧ x.2.length < 2305843009213693952) fun n_1 => .all (fun (r : List UInt8 × Int) => r = divR n_1.1 n_1.2) fun n_2 => .leaf (.ret [.str n_2.1] [.box [.int .i64 n, .sl ops.length 4 (opG ops), .sl inp.length 1 (ratG inp), .int .i64 n_2.2]])) (.leaf (.ret [.str (Array.toList #[])] [.box [.int .i64 n, .sl ops.length 4 (opG ops), .sl inp.length 1 (ratG inp), .int .i64 e]]))) (by kernel_rfl) ?_
  simp only [Tree.holds, ze]
  exact ⟨fun g => ⟨(a, b), ⟨by simp, h2, h3⟩, ⟨_, rfl⟩, fun r hr => yes [] r g hr⟩, fun g => no [] g⟩
end Go.Proofs.Tryz
end

/- Differences: Bump. -/
section
set_option maxRecDepth 100000
open Go Go.Sx Go.Proofs Go.Nov
namespace Go.Proofs.Tryz
attribute [local simp] eqKV eqA eqA0 eqH eqB eqL eqL0
noncomputable def K14 : List Go.Sx.Item := [.code (Tryz.f14.body.getD .skip)]
theorem arR4 : arR 4 = subR := by funext a b; simp [arR]
theorem arR3 : arR 3 = addR := by funext a b; simp [arR]
theorem arR5 : arR 5 = mulR := by funext a b; simp [arR]
theorem arR6 : arR 6 = divR := by funext a b; simp [arR]
def zN (r : List UInt8 × Int) : Prop := (r.2 = 0 → errR r.1 = 0) ∧ (r.2 ≠ 0 → r.1 = [])
theorem zy {r : List UInt8 × Int} (h : zN r) : r.1.length ≤ 2003 := by
 by_cases g : r.2 = 0
 ·exact zR (h.1 g)
 ·rw [h.2 g]; simp
theorem zT {r : List UInt8 × Int} (h : zN r) (g : r.2 = 0) : errR r.1 = 0 := h.1 g
theorem qn {t : Tp} {inp : List (List UInt8)} {h : List UInt8} {l : List Int} (hh : errR h = 0) (p1 : zh t = 0) (p2 : (inp.length : Int) = t.n) (p3 : allQ inp) (hl : ∀ i ∈ l, 0 ≤ i ∧ i < t.n) : zN (atT t inp h l) := by
 refine ⟨fun g => (uk hh p1 p2 p3 hl g).1, fun g => ?_⟩
 unfold atT qQ at g ⊢
 split
 ·rfl
 ·rename_i q
  rw [if_neg q] at g
  split
  ·rfl
  ·rename_i q2; rw [if_neg q2] at g; exact absurd rfl g
theorem zG {e k : Int} {x y : List UInt8} (h : e = 0 → errR x = 0 ∧ errR y = 0) : zN (stp e (arR k) x y) := by
 unfold stp
 by_cases g : e = 0
 ·rw [if_neg (fun q => q g)]
  obtain ⟨a, b⟩ := h g
  exact ⟨fun q => Kz a b q, fun q => XY a b q⟩
 ·rw [if_pos g]
  exact ⟨fun q => absurd q g, fun _ => rfl⟩
theorem jE {i : Int} : eqG 1 1 (zf 1 [.int .i64 i]) (tgI .i64 (dgF [i])) := by
 intro j o hj ho
 obtain rfl : j = 0 := by omega
 obtain rfl : o = 0 := by omega
 rfl
noncomputable def GD3 : Nat → Option Ctr := fun f => if f = 16 then some (ddoC) else if f = 18 then some (datC) else none
theorem zfn : ∀ g c, GD3 g = some c → zg Tryz.prog g c := okIf xr (okIf KK (zp))
noncomputable def zdj : Ctr := inlC Tryz.prog GD3 200 Tryz.f15
theorem zcv : zg Tryz.prog 15 zdj := wP hmix zfn rfl rfl
def XM : Ctr := ctrT false false (fun p : Tp × List (List UInt8) × List UInt8 × Int => [p.1.av, ratS p.2.1, .str p.2.2.1, .osl 0 1 0 1, .fn 15 [] [.ptr 1 0, .ptr 2 0]])
 (fun p => [.arrI .i64 1 (dgF [p.2.2.2]), .box [.str p.2.2.1], .box [.int .i64 p.2.2.2]])
 (fun p => qe p.1 ∧ qt p.2.1 ∧ p.2.2.1.length < 2 ^ 49) (fun p r => r = zP p.1 p.2.1 p.2.2.2 p.2.2.1)
 (fun p (r : List UInt8 × Int) => (.tup [.str r.1, .int .i64 r.2], [.arrI .i64 1 (dgF [p.2.2.2]), .box [.str p.2.2.1], .box [.int .i64 p.2.2.2]]))
noncomputable def GD4 : Nat → Option Ctr := fun f => if f = 28 then some (Xm) else if f = 29 then some (bwI) else if f = 30 then some (km) else if f = 15 then some (zdj) else if f = 16 then some (ddoC) else none
theorem U8 : ∀ g c, GD4 g = some c → zg Tryz.prog g c := okIf Wo (okIf XH (okIf wK (okIf zcv (okIf xr (zp)))))
def StDi (inp : List (List UInt8)) (h v : List UInt8) (k : Nat) : KV := [(1, ratS inp), (2, .str h), (4, .fn 15 [] [.ptr 1 0, .ptr 2 0]), (5, .ptr 3 0), (12, .str v), (30, .osl 0 1 0 1), (31, .int .i64 1), (32, .int .i64 (k : Int))]
def HtDi (n : Int) (ops : List TOp) (h : List UInt8) (i : Int) : Heap := [.arrI .i64 1 (dgF [i]), .box [.str h], .box [.int .i64 i], .box [.int .i64 n, opS ops]]
theorem zcm : zg Tryz.prog 14 XM := by
 refine jw (fn := Tryz.f14) (c := Tryz.f14.body.getD .skip) rfl rfl rfl (fun h => by cases h) fun p hp O w0 σ0 Q hl0 hq => ?_
 obtain ⟨⟨n, ops⟩, inp, h, i⟩ := p
 replace hq := hq _ rfl
 obtain ⟨h1, h2, h3⟩ := hp
 simp only at h1 h2 h3 hq
 refine zd.run hmix U8 [1, 2, 4, 5, 12, 30, 31, 32] 400 (T := .ex (fun (x : Tp × List (List UInt8)) => eqL [AV.agg [AV.int .i64 n, AV.sl ops.length 4 (opG ops)], AV.sl inp.length 1 (ratG inp)] [AV.agg [AV.int .i64 x.1.n, AV.sl x.1.ops.length 4 (opG x.1.ops)], AV.sl x.2.length 1 (ratG x.2)] ∧ qe x.1 ∧ qt x.2) fun n_1 => .all (fun (r : List UInt8 × Int) => r = zx n_1.1 n_1.2) fun n_2 => .ite (!decide (n_2.2 = 0)) (.leaf (.ret [.str (Array.toList #[]), .int .i64 n_2.2] [Blk.arrI .i64 1 (dgF [i]), .box [.str h], .box [.int .i64 i], .box [.int .i64 n, .sl ops.length 4 (opG ops)]])) (.leaf (.loop (Prod.fst (lps K14 0)) (Prod.snd (lps K14 0)) [(1, .sl inp.length 1 (ratG inp)), (2, .str h), (4, .fn 15 [] [.ptr 1 0, .ptr 2 0]), (5, .ptr 3 0), (12, .str n_2.1), (30, .osl 0 1 0 1), (31, .int .i64 1), (32, .int .i64 0)] [Blk.arrI .i64 1 (dgF [i]), .box [.str h], .box [.int .i64 i], .box [.int .i64 n, .sl ops.length 4 (opG ops)]]))) (by kernel_rfl) ?_
 simp only [Tree.holds, ze]
 generalize hF : zP ⟨n, ops⟩ inp i h = F at hq
 have fin : ∀ (r : List UInt8 × Int) (b : Heap), F = r → RetR XM 3 Q [.str r.1, .int .i64 r.2] ([.arrI .i64 1 (dgF [i]), .box [.str h], .box [.int .i64 i]] ++ b) := by
  intro r b hr
  rw [hr] at hq
  exact RetR.keep [0, 1, 2] rfl (by simp) (by show ∀ j, j < 3 → _; decide) rfl hq (by simp [resV, exp2, exp1, exp0, ren0, eqA2, eqL1]) (by simp [expH, expB, exp1, exp0, ren0, zc]) rfl
 have bad : ∀ (e : Int) (b : Heap), begT ⟨n, ops⟩ inp [i] h = e → e ≠ 0 → RetR XM 3 Q [.str [], .int .i64 e] ([.arrI .i64 1 (dgF [i]), .box [.str h], .box [.int .i64 i]] ++ b) := by
  intro e b he he0
  refine fin ([], e) b ?_
  rw [← hF]
  unfold zP
  rw [he, if_pos he0]
 refine ⟨(⟨n, ops⟩, inp), ⟨by simp [zc], h1, h2⟩, ⟨_, rfl⟩, ?_⟩
 intro v hv
 replace hv : v = zx ⟨n, ops⟩ inp := hv
 refine ⟨fun g => ?_, fun g => ?_⟩
 ·have g : v.2 ≠ 0 := by simpa using g
  exact bad _ [_] (by unfold begT; rw [← hv, if_pos g]) g
 have g : v.2 = 0 := by simpa using g
 have hbeg : begT ⟨n, ops⟩ inp [i] h = if qA ⟨n, ops⟩ [i] then (if errR h ≠ 0 then errR h else if h = [48] then 16 else 0) else 2 := by
  unfold begT; rw [← hv, if_neg (fun k => k g)]
 refine zd.loop (ι := {k : Nat // k ≤ 1 ∧ ∀ j, j < k → 0 ≤ dgF [i] j ∧ dgF [i] j < n}) (fun k => StDi inp h v.1 k.1) (fun _ => HtDi n ops h i) (fun k => 1 - k.1) ⟨0, Nat.zero_le _, fun j q => absurd q (Nat.not_lt_zero j)⟩ 0 ?_ ?_ (by kernel_rfl)
 ·exact ⟨by simp [StDi, ratS, zc], by simp [HtDi, opS, zc], by kernel_rfl, by show 3 ≤ 4; decide⟩
 rintro ⟨k, hk, hkp⟩
 refine zd.run hmix U8 [1, 2, 4, 5, 12, 30, 31, 32] 400 (T := .ite (decide ((↑k : Int) < 1)) (.side ((0 : Int) ≤ k ∧ (↑k : Int) < 1) (.ite (!bif decide ((0 : Int) ≤ dgF [i] (0 + Int.toNat (↑k : Int))) then decide (dgF [i] (0 + Int.toNat (↑k : Int)) < n) else false) (.leaf (.ret [.str (Array.toList #[]), .int .i64 2] [Blk.arrI .i64 1 (dgF [i]), .box [.str h], .box [.int .i64 i], .box [.int .i64 n, .sl ops.length 4 (opG ops)]])) (.side (inR .i64 ((↑k : Int) + (1 : Int))) (.leaf (.back 0 [(1, .sl inp.length 1 (ratG inp)), (2, .str h), (4, .fn 15 [] [.ptr 1 0, .ptr 2 0]), (5, .ptr 3 0), (12, .str v.1), (30, .osl 0 1 0 1), (31, .int .i64 1), (32, .int .i64 ((↑k : Int) + (1 : Int)))] [Blk.arrI .i64 1 (dgF [i]), .box [.str h], .box [.int .i64 i], .box [.int .i64 n, .sl ops.length 4 (opG ops)]]))))) (.ex (fun (x : List UInt8) => eqL [AV.str h] [AV.str x] ∧ x.length < 4611686018427387904) fun n_1 => .all (fun (r : Int) => r = errR n_1) fun n_2 => .ite (!decide (n_2 = 0)) (.leaf (.ret [.str (Array.toList #[]), .int .i64 n_2] [Blk.arrI .i64 1 (dgF [i]), .box [.str h], .box [.int .i64 i], .box [.int .i64 n, .sl ops.length 4 (opG ops)]])) (.ite (decide (h = Array.toList #[(48 : UInt8)])) (.leaf (.ret [.str (Array.toList #[]), .int .i64 16] [Blk.arrI .i64 1 (dgF [i]), .box [.str h], .box [.int .i64 i], .box [.int .i64 n, .sl ops.length 4 (opG ops)]])) (.ex (fun (x : Tp × List (List UInt8) × Int × List UInt8 × List Int) => eqL [AV.ptr 0 0, AV.str h, AV.osl 1 1 0 1] [AV.ptr 0 0, AV.str x.2.2.2.1, AV.osl 1 1 0 x.2.2.2.2.length] ∧ eqH [.box [AV.int .i64 n, AV.sl ops.length 4 (opG ops), AV.sl inp.length 1 (ratG inp), AV.int .i64 0], .arr 1 1 (zf 1 [AV.int .i64 i])] [.box [AV.int .i64 x.1.n, AV.sl x.1.ops.length 4 (opG x.1.ops), AV.sl x.2.1.length 1 (ratG x.2.1), AV.int .i64 x.2.2.1], Blk.arrI .i64 x.2.2.2.2.length (dgF x.2.2.2.2)] ∧ 2 = 2 ∧ zh x.1 = 0 ∧ (↑x.2.1.length : Int) = Tp.n x.1 ∧ allQ x.2.1 ∧ errR x.2.2.2.1 = 0 ∧ (∀ (i : Int), i ∈ x.2.2.2.2 → (0 : Int) ≤ i ∧ i < Tp.n x.1) ∧ x.2.2.2.2.length < 1099511627776) fun n_3 => .all (fun (r : List UInt8 × Int) => r = stpA n_3.2.2.1 (atT n_3.1 n_3.2.1 n_3.2.2.2.1 n_3.2.2.2.2)) fun n_4 => .ex (fun (x : Tp × List (List UInt8) × Int × Int × List UInt8 × List UInt8) => eqL [AV.ptr 0 0, AV.fn 17 [] [], AV.str n_4.1, AV.str v.1] [AV.ptr 0 0, AV.fn (opN x.2.2.2.1) [] [], AV.str x.2.2.2.2.1, AV.str x.2.2.2.2.2] ∧ eqH [.box [AV.int .i64 n_3.1.n, AV.sl n_3.1.ops.length 4 (opG n_3.1.ops), AV.sl n_3.2.1.length 1 (ratG n_3.2.1), AV.int .i64 n_4.2]] [.box [AV.int .i64 x.1.n, AV.sl x.1.ops.length 4 (opG x.1.ops), AV.sl x.2.1.length 1 (ratG x.2.1), AV.int .i64 x.2.2.1]] ∧ 1 = 1 ∧ (x.2.2.2.1 = 3 ∨ x.2.2.2.1 = 4 ∨ x.2.2.2.1 = 5 ∨ x.2.2.2.1 = 6) ∧ x.2.2.2.2.1.length < 2305843009213693952 ∧ x.2.2.2.2.2.length < 2305843009213693952) fun n_5 => .all (fun (r : List UInt8 × Int) => r = stp n_5.2.2.1 (arR n_5.2.2.2.1) n_5.2.2.2.2.1 n_5.2.2.2.2.2) fun n_6 => .ex (fun (x : Tp × List (List UInt8) × Int × Int × List UInt8 × List UInt8) => eqL [AV.ptr 0 0, AV.fn 31 [] [], AV.str n_6.1, AV.str h] [AV.ptr 0 0, AV.fn (opN x.2.2.2.1) [] [], AV.str x.2.2.2.2.1, AV.str x.2.2.2.2.2] ∧ eqH [.box [AV.int .i64 n_5.1.n, AV.sl n_5.1.ops.length 4 (opG n_5.1.ops), AV.sl n_5.2.1.length 1 (ratG n_5.2.1), AV.int .i64 n_6.2]] [.box [AV.int .i64 x.1.n, AV.sl x.1.ops.length 4 (opG x.1.ops), AV.sl x.2.1.length 1 (ratG x.2.1), AV.int .i64 x.2.2.1]] ∧ 1 = 1 ∧ (x.2.2.2.1 = 3 ∨ x.2.2.2.1 = 4 ∨ x.2.2.2.1 = 5 ∨ x.2.2.2.1 = 6) ∧ x.2.2.2.2.1.length < 2305843009213693952 ∧ x.2.2.2.2.2.length < 2305843009213693952) fun n_7 => .all (fun (r : List UInt8 × Int) => r = stp n_7.2.2.1 (arR n_7.2.2.2.1) n_7.2.2.2.2.1 n_7.2.2.2.2.2) fun n_8 => .ite (!decide (n_8.2 = 0)) (.leaf (.ret [.str (Array.toList #[]), .int .i64 n_8.2] [Blk.arrI .i64 1 (dgF [i]), .box [.str h], .box [.int .i64 i], .box [.int .i64 n, .sl ops.length 4 (opG ops)], .box [.int .i64 n_7.1.n, .sl n_7.1.ops.length 4 (opG n_7.1.ops), .sl n_7.2.1.length 1 (ratG n_7.2.1), .int .i64 n_8.2], Blk.arrI .i64 n_3.2.2.2.2.length (dgF n_3.2.2.2.2)])) (.leaf (.ret [.str n_8.1, .int .i64 0] [Blk.arrI .i64 1 (dgF [i]), .box [.str h], .box [.int .i64 i], .box [.int .i64 n, .sl ops.length 4 (opG ops)], .box [.int .i64 n_7.1.n, .sl n_7.1.ops.length 4 (opG n_7.1.ops), .sl n_7.2.1.length 1 (ratG n_7.2.1), .int .i64 n_8.2], Blk.arrI .i64 n_3.2.2.2.2.length (dgF n_3.2.2.2.2)])))))) (by kernel_rfl) ?_
 simp only [Tree.holds, ze, inR, lo, hi, Int.toNat_natCast, Nat.zero_add]
 refine ⟨fun hlt => ?_, fun hge => ?_⟩
 ·have hlt : k < 1 := by have := of_decide_eq_true hlt; omega
  obtain rfl : k = 0 := by omega
  refine ⟨by omega, fun _ => ⟨fun g2 => ?_, fun g2 => ⟨by omega, fun _ => ?_⟩⟩⟩
  ·refine bad 2 [_] ?_ (by decide)
   rw [hbeg, if_neg]
   intro g3
   simp only [qA, List.all_cons, List.all_nil, Bool.and_true, Bool.and_eq_true] at g3
   have g2 : (!bif decide (0 ≤ i) then decide (i < n) else false) = true := g2
   rw [g3.1, g3.2] at g2
   cases g2
  ·rw [if_pos trivial]
   have g2 : (!bif decide (0 ≤ i) then decide (i < n) else false) = false := g2
   have g3 : 0 ≤ i ∧ i < n := by
    by_cases a : 0 ≤ i
    ·by_cases b : i < n
     ·exact ⟨a, b⟩
     ·rw [decide_eq_true a, decide_eq_false b] at g2; cases g2
    ·rw [decide_eq_false a] at g2; cases g2
   exact ⟨⟨1, Nat.le_refl _, fun j hj => (show j = 0 by omega) ▸ g3⟩, by show 1 - 1 < 1 - 0; decide, by simp [StDi, ratS, zc], by simp [HtDi, opS, zc], by kernel_rfl, by show 3 ≤ 4; decide⟩
 have hk1 : k = 1 := by have := of_decide_eq_false hge; omega
 subst hk1
 have hpl : 0 ≤ i ∧ i < n := hkp 0 (by decide)
 have hplB : qA ⟨n, ops⟩ [i] = true := by
  simp only [qA, List.all_cons, List.all_nil, Bool.and_true]
  rw [decide_eq_true hpl.1, decide_eq_true hpl.2]; rfl
 rw [if_pos hplB] at hbeg
 refine ⟨h, ⟨by simp, by omega⟩, ⟨_, rfl⟩, ?_⟩
 intro e he
 replace he : e = errR h := he
 rw [← he] at hbeg
 refine ⟨fun g2 => ?_, fun g2 => ?_⟩
 ·have g2 : e ≠ 0 := by simpa using g2
  exact bad _ [_] (by rw [hbeg, if_pos g2]) g2
 have g2 : e = 0 := by simpa using g2
 rw [if_neg (fun q => q g2)] at hbeg
 refine ⟨fun g4 => ?_, fun g4 => ?_⟩
 ·exact bad _ [_] (by rw [hbeg, if_pos (of_decide_eq_true g4)]) (by decide)
 rw [if_neg (of_decide_eq_false g4)] at hbeg
 obtain ⟨v1, v2, v3, v4, v5⟩ := kn (hv ▸ g)
 rw [← hv] at v4
 have he0 : errR h = 0 := he ▸ g2
 have hl := zR he0
 have hlv := zR v4
 refine ⟨(⟨n, ops⟩, inp, 0, h, [i]), ⟨by simp, by simp [zc]; exact jE, trivial, v1, v2, v3, he0, fun x hx => by rw [List.mem_singleton.1 hx]; exact hpl, by show 1 < _; decide⟩, ⟨_, rfl⟩, ?_⟩
 intro r hr
 replace hr : r = atT ⟨n, ops⟩ inp h [i] := hr
 have gr : zN r := hr ▸ qn he0 v1 v2 v3 (fun x hx => by rw [List.mem_singleton.1 hx]; exact hpl)
 have l1 := zy gr
 refine ⟨(⟨n, ops⟩, inp, r.2, 4, r.1, v.1), ⟨by simp [opN], by simp [zc], trivial, .inr (.inl rfl), by show r.1.length < _; omega, by show v.1.length < _; omega⟩, ⟨_, rfl⟩, ?_⟩
 intro u hu
 replace hu : u = stp r.2 (arR 4) r.1 v.1 := hu
 have gu : zN u := hu ▸ zG (fun q => ⟨zT gr q, v4⟩)
 have l2 := zy gu
 refine ⟨(⟨n, ops⟩, inp, u.2, 6, u.1, h), ⟨by simp [opN], by simp [zc], trivial, .inr (.inr (.inr rfl)), by show u.1.length < _; omega, by show h.length < _; omega⟩, ⟨_, rfl⟩, ?_⟩
 intro w hw
 replace hw : w = stp u.2 (arR 6) u.1 h := hw
 have hFw : F = endR w := by
  rw [← hF]
  unfold zP xC
  rw [if_neg (fun q => q hbeg), ← hv, ← hr, ← arR4, ← hu, ← arR6, ← hw]
 unfold endR at hFw
 refine ⟨fun g5 => ?_, fun g5 => ?_⟩
 ·have g5 : w.2 ≠ 0 := by simpa using g5
  rw [if_pos g5] at hFw
  exact fin ([], w.2) _ hFw
 ·have g5 : w.2 = 0 := by simpa using g5
  rw [if_neg (fun q => q g5)] at hFw
  exact fin (w.1, 0) _ hFw
def zdg : Ctr := ctrP true (fun p : Tp × List (List UInt8) × Int × List UInt8 => [p.1.av, ratS p.2.1, .int .i64 p.2.2.1, .str p.2.2.2])
 (fun p => qe p.1 ∧ qt p.2.1 ∧ p.2.2.2.length < 2 ^ 49) (fun p r => r = zP p.1 p.2.1 p.2.2.1 p.2.2.2)
 (fun p (r : List UInt8 × Int) => (.tup [.str r.1, .int .i64 r.2], []))
noncomputable def GD5 : Nat → Option Ctr := fun f => if f = 14 then some (XM) else none
theorem zeq : ∀ g c, GD5 g = some c → zg Tryz.prog g c := okIf zcm (zp)
theorem zd6 : zg Tryz.prog 6 zdg := by
 refine zi (fn := Tryz.f6) (c := Tryz.f6.body.getD .skip) rfl rfl rfl fun p hp O w0 Q hq => ?_
 obtain ⟨⟨n, ops⟩, inp, i, h⟩ := p
 replace hq := hq _ rfl
 simp only at hp hq
 refine zd.run hmix zeq [] 400 (T := .ex (fun (x : Tp × List (List UInt8) × List UInt8 × Int) => eqL [AV.agg [AV.int .i64 n, AV.sl ops.length 4 (opG ops)], AV.sl inp.length 1 (ratG inp), AV.str h, AV.osl 0 1 0 1, AV.fn 15 [] [AV.ptr 1 0, AV.ptr 2 0]] [AV.agg [AV.int .i64 x.1.n, AV.sl x.1.ops.length 4 (opG x.1.ops)], AV.sl x.2.1.length 1 (ratG x.2.1), AV.str x.2.2.1, AV.osl 0 1 0 1, AV.fn 15 [] [AV.ptr 1 0, AV.ptr 2 0]] ∧ eqH [.arr 1 1 (zf 1 [AV.int .i64 i]), .box [AV.str h], .box [AV.int .i64 i]] [Blk.arrI .i64 1 (dgF [x.2.2.2]), .box [AV.str x.2.2.1], .box [AV.int .i64 x.2.2.2]] ∧ 3 = 3 ∧ qe x.1 ∧ qt x.2.1 ∧ x.2.2.1.length < 562949953421312) fun n_1 => .all (fun (r : List UInt8 × Int) => r = zP n_1.1 n_1.2.1 n_1.2.2.2 n_1.2.2.1) fun n_2 => .leaf (.ret [.str n_2.1, .int .i64 n_2.2] [.box [.int .i64 n, .sl ops.length 4 (opG ops)], .box [.int .i64 n_1.2.2.2], .box [.str n_1.2.2.1], Blk.arrI .i64 1 (dgF [n_1.2.2.2])])) (by kernel_rfl) ?_
 simp only [Tree.holds, ze]
 refine ⟨(⟨n, ops⟩, inp, h, i), ⟨by simp [zc], by simp; exact jE, trivial, hp⟩, ⟨_, rfl⟩, ?_⟩
 rintro _ rfl
 exact RetR.scal hq rfl (by simp [resV])
end Go.Proofs.Tryz
end
