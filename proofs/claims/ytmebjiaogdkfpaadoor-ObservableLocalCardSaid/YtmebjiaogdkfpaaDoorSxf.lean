/- Part 6 of the proof. -/
import Derived.Test.YtmebjiaogdkfpaaDoorSxe
set_option linter.unusedVariables false
set_option linter.unusedSimpArgs false
set_option linter.unusedSectionVars false

/- Rationals: how a number is written; what the operations yield. -/
section
namespace Go.Nov
def qv (a : List UInt8) : Rat := Rat.divInt (zI (numR a)) (zI (denR a))
def qstr (r : Rat) : List UInt8 := if r.den = 1 then (wz r.num).1 else (wz r.num).1 ++ [47] ++ (wz r.den).1
def kf (r : Rat) : Prop := room r.num.natAbs ∧ room r.den
theorem YE (neg : Bool) (x : Nat) : ∀ c ∈ (wr neg x).1, c ≠ 47 := by
 intro c hc h
 subst h
 unfold wr at hc
 split at hc
 ·simp at hc
 ·rename_i h0
  split at hc
  ·simp at hc
  ·have ht : ¬ (47 : UInt8) ∈ txt x := fun hm => by
    have := (Ky h0 _ hm).1
    have e : (47 : UInt8).toNat = 47 := rfl
    omega
   cases neg <;> simp [sgn] at hc <;> exact ht hc
theorem XN {u v : List UInt8} (h : ∀ c ∈ u, c ≠ 47) : cutR (u ++ [47] ++ v) = (u, v, true) := by
 have hs : z7 (u ++ [47] ++ v) = u.length := by
  refine Yx (by simp) (by simp [List.getD]) fun j hj => ?_
  rw [List.append_assoc]
  simp only [List.getD, List.getElem?_append_left hj, List.getElem?_eq_getElem hj, Option.getD_some]
  exact h _ (List.getElem_mem hj)
 rw [VK (by rw [hs]; simp), hs]
 simp
theorem KD {u : List UInt8} (h : ∀ c ∈ u, c ≠ 47) : cutR u = (u, [], false) := by
 have hs : z7 u = u.length := WI fun j hj => by
  simp only [List.getD, List.getElem?_eq_getElem hj, Option.getD_some]
  exact h _ (List.getElem_mem hj)
 exact Yb (by omega)
theorem JO (z : Int) : ∀ c ∈ (wz z).1, c ≠ 47 := YE _ _
theorem kx {z : Int} (h : room z.natAbs) : (wz z).2 = 0 := wY h
theorem zdl : wz 1 = ([49], 0) := vB
theorem yU {r : Rat} (h : kf r) : numR (qstr r) = (wz r.num).1 ∧ denR (qstr r) = (wz (r.den : Int)).1 ∧ (cutR (qstr r)).2.2 = decide (r.den ≠ 1) := by
 unfold qstr
 by_cases h1 : r.den = 1
 ·rw [if_pos h1]
  have := KD (JO r.num)
  unfold numR denR
  rw [this, h1]
  exact ⟨rfl, by simp only [Bool.false_eq_true, if_false]; exact (congrArg Prod.fst zdl).symm, by simp⟩
 ·rw [if_neg h1]
  have := XN (v := (wz (r.den : Int)).1) (JO r.num)
  unfold numR denR
  rw [this]
  exact ⟨rfl, rfl, by simp [h1]⟩
theorem Ji {r : Rat} (h : kf r) : qv (qstr r) = r := by
 obtain ⟨h1, h2, _⟩ := yU h
 unfold qv
 rw [h1, h2, kE (kx h.1), kE (kx (by rw [Int.natAbs_natCast]; exact h.2)), Rat.divInt_ofNat, Rat.mkRat_self]
theorem yj {r : Rat} (h : kf r) : errR (qstr r) = 0 := by
 obtain ⟨h1, h2, h3⟩ := yU h
 have e1 := yv (kx h.1)
 have e2 : errI (wz (r.den : Int)).1 = 0 := yv (kx (by rw [Int.natAbs_natCast]; exact h.2))
 have z1 := kE (kx h.1)
 have z2 : zI (wz (r.den : Int)).1 = r.den := kE (kx (by rw [Int.natAbs_natCast]; exact h.2))
 unfold errR
 by_cases hd : r.den = 1
 ·rw [h3, hd]
  simp only [ne_eq, not_true_eq_false, decide_false, Bool.false_eq_true, if_false]
  unfold qstr
  rw [if_pos hd]
  exact e1
 ·have hc : (cutR (qstr r)).2.2 = true := by rw [h3]; simp [hd]
  have n1 : (cutR (qstr r)).1 = (wz r.num).1 := h1
  have n2 : (cutR (qstr r)).2.1 = (wz (r.den : Int)).1 := by unfold denR at h2; rw [hc] at h2; exact h2
  rw [hc, if_pos rfl, n1, n2]
  have hp := r.den_pos
  have hneg : negI (wz (r.den : Int)).1 = false := by rw [Jk e2, z2]; exact decide_eq_false (by omega)
  have hn48 : (wz (r.den : Int)).1 ≠ [48] := fun h => by
   rw [h] at z2
   have : zI [48] = 0 := rfl
   omega
  have hn49 : (wz (r.den : Int)).1 ≠ [49] := fun h => by
   rw [h] at z2
   have : zI [49] = 1 := rfl
   omega
  rw [if_neg (by simp [e1, e2, hneg, hn48, hn49]), if_neg (by simp [e1, e2])]
  have hg : gcdR (wz r.num).1 (wz (r.den : Int)).1 = wr false (Nat.gcd r.num.natAbs r.den) := by
   unfold gcdR
   rw [if_pos (zk.2 ⟨e1, e2⟩), ← jB, ← jB, z1, z2, Int.natAbs_natCast]
  have hr : Nat.gcd r.num.natAbs r.den = 1 := r.reduced
  rw [hg, hr, vB, if_neg (by simp)]
theorem UO {a : List UInt8} (h : errR a = 0) : (qv a).num = zI (numR a) ∧ ((qv a).den : Int) = zI (denR a) ∧ qstr (qv a) = a ∧ kf (qv a) := by
 obtain ⟨e1, e2, e3, e4⟩ := qz h
 have hz : zI (denR a) = numI (denR a) := by unfold zI; rw [e3]; rfl
 have hcop : Nat.gcd (numI (numR a)) (numI (denR a)) = 1 := by
  unfold errR at h
  cases hc : (cutR a).2.2 with
  | true =>
   rw [hc, if_pos rfl] at h
   have hd : denR a = (cutR a).2.1 := by unfold denR; rw [hc]; rfl
   rw [hd] at e2 e4 ⊢
   unfold numR at e1 ⊢
   split at h
   ·cases h
   split at h
   ·cases h
   split at h
   ·cases h
   ·rename_i hg
    rw [Classical.not_not] at hg
    unfold gcdR at hg
    rw [if_pos (zk.2 ⟨e1, e2⟩)] at hg
    exact (Vc (JP e2 e4).2).1 hg
  | false =>
   have : denR a = [49] := by unfold denR; rw [hc]; rfl
   rw [this]
   exact Nat.gcd_one_right _
 have hq : qv a = ⟨zI (numR a), numI (denR a), e4, by rw [jB]; exact hcop⟩ := by
  unfold qv
  rw [hz, Rat.mk_eq_divInt]
 have hroom : kf (qv a) := by
  rw [hq]
  exact ⟨by show room (zI (numR a)).natAbs; rw [jB]; exact jf e1, jf e2⟩
 refine ⟨by rw [hq], by rw [hq, hz], ?_, hroom⟩
 rw [hq]
 unfold qstr
 simp only
 rw [← hz, VV e1, VV e2]
 cases hc : (cutR a).2.2 with
 | true =>
  have hd : denR a = (cutR a).2.1 := by unfold denR; rw [hc]; rfl
  have hn1 : numI (denR a) ≠ 1 := by
   intro h1
   have : denR a = [49] := by
    have := (VO e2)
    rw [e3, h1, vB] at this
    exact (congrArg Prod.fst this).symm
   unfold errR at h
   rw [hc, if_pos rfl, if_pos (by rw [← hd, this]; simp)] at h
   cases h
  rw [if_neg hn1, hd]
  simp only [numR]
  unfold cutR at hc ⊢
  split at hc
  ·rename_i hs
   rw [if_pos hs]
   simp only
   have h47 := Zb hs
   have : a = a.take (z7 a) ++ ([a.getD (z7 a) 0] ++ a.drop (z7 a + 1)) := by
    conv => lhs; rw [← List.take_append_drop (z7 a) a]
    congr 1
    rw [List.drop_eq_getElem_cons hs]
    simp [List.getD, List.getElem?_eq_getElem hs]
   rw [h47] at this
   rw [List.append_assoc]
   exact this.symm
  ·cases hc
 | false =>
  have hd : denR a = [49] := by unfold denR; rw [hc]; rfl
  rw [hd]
  have : numI [49] = 1 := rfl
  rw [if_pos this]
  unfold numR
  unfold cutR at hc ⊢
  split at hc
  ·cases hc
  ·rename_i hs
   rw [if_neg hs]
end Go.Nov
end

/- Rationals: what the operations yield. -/
section
namespace Go.Nov
theorem zbs (a b : Int) (hb : b ≠ 0) : b.sign * a = if (decide (a < 0) != decide (b < 0)) = true then -(a.natAbs : Int) else a.natAbs := by
 by_cases h1 : a < 0
 ·rw [decide_eq_true h1]
  by_cases h2 : b < 0
  ·rw [decide_eq_true h2, Int.sign_eq_neg_one_of_neg h2]; simp; omega
  ·rw [decide_eq_false h2, Int.sign_eq_one_of_pos (by omega)]; simp; omega
 ·rw [decide_eq_false h1]
  by_cases h2 : b < 0
  ·rw [decide_eq_true h2, Int.sign_eq_neg_one_of_neg h2]; simp; omega
  ·rw [decide_eq_false h2, Int.sign_eq_one_of_pos (by omega)]; simp; omega
theorem zeh {n d : List UInt8} (hn : errI n = 0) (hd : errI d = 0) (h0 : numI d ≠ 0) : j7 n d = (qstr (Rat.divInt (zI n) (zI d)), 0) ∧ kf (Rat.divInt (zI n) (zI d)) := by
 have hz0 : zI d ≠ 0 := fun h => h0 (by rw [← jB, h]; rfl)
 have hg : (zI d).gcd (zI n) = Nat.gcd (numI n) (numI d) := by
  show Nat.gcd _ _ = _
  rw [jB, jB, Nat.gcd_comm]
 have hden : (Rat.divInt (zI n) (zI d)).den = numI d / Nat.gcd (numI n) (numI d) := by
  rw [Rat.den_divInt, if_neg hz0, hg, jB]
 have hdv : Nat.gcd (numI n) (numI d) ∣ numI n := Nat.gcd_dvd_left _ _
 have hnum : (Rat.divInt (zI n) (zI d)).num = if (negI n != negI d) = true then -((numI n / Nat.gcd (numI n) (numI d) : Nat) : Int) else ((numI n / Nat.gcd (numI n) (numI d) : Nat) : Int) := by
  rw [Rat.num_divInt, hg, zbs _ _ hz0, jB, ← Jk hn, ← Jk hd]
  split
  ·rw [Int.neg_ediv_of_dvd (Int.natCast_dvd_natCast.2 hdv), Int.natCast_ediv]
  ·rw [Int.natCast_ediv]
 have hroom : kf (Rat.divInt (zI n) (zI d)) := by
  refine ⟨?_, by rw [hden]; exact room_le (Nat.div_le_self _ _) (jf hd)⟩
  rw [hnum]
  have : room (numI n / Nat.gcd (numI n) (numI d)) := room_le (Nat.div_le_self _ _) (jf hn)
  split
  ·rw [Int.natAbs_neg, Int.natAbs_natCast]; exact this
  ·rw [Int.natAbs_natCast]; exact this
 refine ⟨?_, hroom⟩
 unfold j7
 rw [if_neg (by rw [zk.2 ⟨hn, hd⟩]; simp), if_neg h0]
 congr 1
 unfold VR qstr
 rw [hden, hnum]
 have e2 : (wr false (numI d / Nat.gcd (numI n) (numI d))).1 = (wz ((numI d / Nat.gcd (numI n) (numI d) : Nat) : Int)).1 := by rw [J0]; rfl
 rw [J0, e2]
theorem V8 {n d : List UInt8} {e f : Int} {z w : Int} (hw : w ≠ 0) (hz : (n, e) = wz z) (hd : (d, f) = wz w) : frac (n, e) (d, f) = ([], 14) ∨ (frac (n, e) (d, f) = (qstr (Rat.divInt z w), 0) ∧ kf (Rat.divInt z w)) := by
 unfold frac
 by_cases he : e = 0
 ·by_cases hf : f = 0
  ·subst he; subst hf
   have h1 : (wz z).2 = 0 := by rw [← hz]
   have h2 : (wz w).2 = 0 := by rw [← hd]
   have n1 : n = (wz z).1 := by rw [← hz]
   have n2 : d = (wz w).1 := by rw [← hd]
   have z1 := kE h1
   have z2 := kE h2
   have e1 := yv h1
   have e2 := yv h2
   rw [← n1] at z1 e1
   rw [← n2] at z2 e2
   right
   rw [if_neg (by simp)]
   have := zeh e1 e2 (fun h => hw (by rw [← z2]; have := jB d; omega))
   rw [z1, z2] at this
   exact this
  ·left; rw [if_pos (.inr hf)]
 ·left; rw [if_pos (.inl he)]
section
variable {a b : List UInt8} (ha : errR a = 0) (hb : errR b = 0)
include ha hb
theorem Ko : errI (numR a) = 0 ∧ errI (denR a) = 0 ∧ errI (numR b) = 0 ∧ errI (denR b) = 0 ∧ zI (denR a) ≠ 0 ∧ zI (denR b) ≠ 0 ∧ jw a b = 0 := by
 obtain ⟨a1, a2, _, a4⟩ := qz ha
 obtain ⟨b1, b2, _, b4⟩ := qz hb
 exact ⟨a1, a2, b1, b2, fun h => a4 (by rw [← jB, h]; rfl), fun h => b4 (by rw [← jB, h]; rfl), by unfold jw; rw [if_pos ha]; exact hb⟩
theorem K0 : zP a b = 14 ∨ (zP a b = 0 ∧ mulI (numR a) (denR b) = wz (zI (numR a) * zI (denR b)) ∧ mulI (numR b) (denR a) = wz (zI (numR b) * zI (denR a)) ∧ (mulI (numR a) (denR b)).2 = 0 ∧ (mulI (numR b) (denR a)).2 = 0) := by
 obtain ⟨a1, a2, b1, b2, a4, b4, h2⟩ := Ko ha hb
 have m1 := yn (zk.2 ⟨a1, b2⟩)
 have m2 := yn (zk.2 ⟨b1, a2⟩)
 unfold zP
 rw [if_neg (by rw [h2]; simp)]
 by_cases h : (mulI (numR a) (denR b)).2 ≠ 0 ∨ (mulI (numR b) (denR a)).2 ≠ 0
 ·left; rw [if_pos h]
 ·right
  rw [if_neg h]
  simp only [not_or, Classical.not_not] at h
  exact ⟨rfl, m1, m2, h.1, h.2⟩
theorem zem : addR a b = ([], 14) ∨ (addR a b = (qstr (qv a + qv b), 0) ∧ kf (qv a + qv b)) := by
 obtain ⟨a1, a2, b1, b2, a4, b4, h2⟩ := Ko ha hb
 unfold addR
 rcases K0 ha hb with h | ⟨h, m1, m2, k1, k2⟩
 ·left; rw [h]; rfl
 ·rw [h, if_neg (by simp)]
  rw [m1] at k1
  rw [m2] at k2
  have e1 := yv k1
  have e2 := yv k2
  have := V8 (n := (addI (mulI (numR a) (denR b)).1 (mulI (numR b) (denR a)).1).1) (e := (addI (mulI (numR a) (denR b)).1 (mulI (numR b) (denR a)).1).2) (d := (mulI (denR a) (denR b)).1) (f := (mulI (denR a) (denR b)).2)
   (z := zI (numR a) * zI (denR b) + zI (numR b) * zI (denR a)) (w := zI (denR a) * zI (denR b)) (Int.mul_ne_zero a4 b4) (by rw [m1, m2, zea (zk.2 ⟨e1, e2⟩), kE k1, kE k2]) (by rw [yn (zk.2 ⟨a2, b2⟩)])
  unfold qv
  rw [Rat.divInt_add_divInt _ _ a4 b4]
  exact this
theorem zdr : subR a b = ([], 14) ∨ (subR a b = (qstr (qv a - qv b), 0) ∧ kf (qv a - qv b)) := by
 obtain ⟨a1, a2, b1, b2, a4, b4, h2⟩ := Ko ha hb
 unfold subR
 rcases K0 ha hb with h | ⟨h, m1, m2, k1, k2⟩
 ·left; rw [h]; rfl
 ·rw [h, if_neg (by simp)]
  rw [m1] at k1
  rw [m2] at k2
  have e1 := yv k1
  have e2 := yv k2
  have := V8 (n := (subI (mulI (numR a) (denR b)).1 (mulI (numR b) (denR a)).1).1) (e := (subI (mulI (numR a) (denR b)).1 (mulI (numR b) (denR a)).1).2) (d := (mulI (denR a) (denR b)).1) (f := (mulI (denR a) (denR b)).2)
   (z := zI (numR a) * zI (denR b) - zI (numR b) * zI (denR a)) (w := zI (denR a) * zI (denR b)) (Int.mul_ne_zero a4 b4) (by rw [m1, m2, ze4 (zk.2 ⟨e1, e2⟩), kE k1, kE k2]) (by rw [yn (zk.2 ⟨a2, b2⟩)])
  unfold qv
  rw [Rat.divInt_sub_divInt _ _ a4 b4]
  exact this
theorem zde : mulR a b = ([], 14) ∨ (mulR a b = (qstr (qv a * qv b), 0) ∧ kf (qv a * qv b)) := by
 obtain ⟨a1, a2, b1, b2, a4, b4, h2⟩ := Ko ha hb
 unfold mulR
 rw [h2, if_neg (by simp)]
 have := V8 (n := (mulI (numR a) (numR b)).1) (e := (mulI (numR a) (numR b)).2) (d := (mulI (denR a) (denR b)).1) (f := (mulI (denR a) (denR b)).2)
  (z := zI (numR a) * zI (numR b)) (w := zI (denR a) * zI (denR b)) (Int.mul_ne_zero a4 b4) (by rw [yn (zk.2 ⟨a1, b1⟩)]) (by rw [yn (zk.2 ⟨a2, b2⟩)])
 unfold qv
 rw [Rat.divInt_mul_divInt]
 exact this
end
theorem zau {a b : List UInt8} (ha : errR a = 0) (hb : errR b = 0) (h : (addR a b).2 = 0) : errR (addR a b).1 = 0 ∧ qv (addR a b).1 = qv a + qv b := by
 rcases zem ha hb with h1 | ⟨h1, h2⟩
 ·rw [h1] at h; cases h
 ·rw [h1]; exact ⟨yj h2, Ji h2⟩
theorem zb5 {a b : List UInt8} (ha : errR a = 0) (hb : errR b = 0) (h : (subR a b).2 = 0) : errR (subR a b).1 = 0 ∧ qv (subR a b).1 = qv a - qv b := by
 rcases zdr ha hb with h1 | ⟨h1, h2⟩
 ·rw [h1] at h; cases h
 ·rw [h1]; exact ⟨yj h2, Ji h2⟩
theorem zat {a b : List UInt8} (ha : errR a = 0) (hb : errR b = 0) (h : (mulR a b).2 = 0) : errR (mulR a b).1 = 0 ∧ qv (mulR a b).1 = qv a * qv b := by
 rcases zde ha hb with h1 | ⟨h1, h2⟩
 ·rw [h1] at h; cases h
 ·rw [h1]; exact ⟨yj h2, Ji h2⟩
end Go.Nov
end

/- Expressions: their values. -/
section
namespace Go.Nov
open Go.Sx
structure Ev where
 v : List UInt8
 e : Int
 b : Bool
 g : Int
abbrev Ev.nil : Ev := ⟨[], 0, false, 0⟩
def j6 (k : Int) (a b : List UInt8) : List UInt8 × Int :=
 if k = 7 then (if (cmpR a b).2 ≠ 0 then ([], (cmpR a b).2) else (if (cmpR a b).1 < 0 then b else a, 0))
 else (if (cmpR b a).2 ≠ 0 then ([], (cmpR b a).2) else (if (cmpR b a).1 < 0 then b else a, 0))
def opR (k : Int) (a b : List UInt8) : List UInt8 × Int := if k = 4 then addR a b else if k = 5 then subR a b else if k = 6 then mulR a b else j6 k a b
def fixR (f : List Fx) (a : List UInt8) (d : Int) : List UInt8 × Int := if (j5 f a d).2 = true then ((j5 f a d).1, 0) else ([], 30)
def uf {α : Type} (z : α) (l0 l1 : Ev) (f : List UInt8 → List UInt8 → α × Int) : α × Int := if l0.e ≠ 0 then (z, l0.e) else if l1.e ≠ 0 then (z, l1.e) else f l0.v l1.v
def valN (f : List Fx) (day k : Int) (r n : List UInt8) (d : Int) (l : List Ev) : List UInt8 × Int :=
 if k = 1 then (r, 0) else if k = 2 then fixR f n d else if k = 3 then fixR f n day
 else if k = 9 then (if (l.getD 0 Ev.nil).g ≠ 0 then ([], (l.getD 0 Ev.nil).g) else if (l.getD 0 Ev.nil).b then ((l.getD 1 Ev.nil).v, (l.getD 1 Ev.nil).e) else ((l.getD 2 Ev.nil).v, (l.getD 2 Ev.nil).e))
 else uf [] (l.getD 0 Ev.nil) (l.getD 1 Ev.nil) (opR k)
def JS (k : Int) (a b : List UInt8) : Bool × Int := if (cmpR a b).2 ≠ 0 then (false, (cmpR a b).2) else (if k = 11 then decide ((cmpR a b).1 < 0) else decide ((cmpR a b).1 = 0), 0)
def hldN (k : Int) (l : List Ev) : Bool × Int :=
 if 13 ≤ k then (if (l.getD 0 Ev.nil).g ≠ 0 then (false, (l.getD 0 Ev.nil).g) else if k = 15 then (!(l.getD 0 Ev.nil).b, 0)
  else if (l.getD 0 Ev.nil).b = decide (k = 14) then ((l.getD 0 Ev.nil).b, 0) else ((l.getD 1 Ev.nil).b, (l.getD 1 Ev.nil).g))
 else uf false (l.getD 0 Ev.nil) (l.getD 1 Ev.nil) (JS k)
def evN (f : List Fx) (day k : Int) (r n : List UInt8) (d : Int) (l : List Ev) : Ev := ⟨(valN f day k r n d l).1, (valN f day k r n d l).2, (hldN k l).1, (hldN k l).2⟩
namespace Ex
mutual
def ev (f : List Fx) (day : Int) : Ex → Ev
 | mk k r n d s => evN f day k r n d (evs f day s)
def evs (f : List Fx) (day : Int) : List Ex → List Ev
 | [] => []
 | x :: l => ev f day x :: evs f day l
end
theorem q5 {f : List Fx} {day : Int} {s : List Ex} {i : Nat} (h : i < s.length) : (evs f day s).getD i Ev.nil = (s.getD i nil).ev f day := by
 induction s generalizing i with
 | nil => simp at h
 | cons x s ih =>
  rw [evs]
  cases i with
  | zero => rfl
  | succ i => exact ih (by simpa using h)
theorem ZJ {x : Ex} (h : x.zt = 1) : (x.kind = 1 ∧ errR x.rat = 0) ∨ x.kind = 2 ∨ x.kind = 3 ∨
  ((4 ≤ x.kind ∧ x.kind ≤ 8) ∧ x.sub.length = 2 ∧ (x.sub.getD 0 nil).zt = 1 ∧ (x.sub.getD 1 nil).zt = 1) ∨
  (x.kind = 9 ∧ x.sub.length = 3 ∧ (x.sub.getD 0 nil).zt = 2 ∧ (x.sub.getD 1 nil).zt = 1 ∧ (x.sub.getD 2 nil).zt = 1) := by
 rw [yY] at h
 by_cases hk : qt x.kind = true
 ·have hk2 : (4 ≤ x.kind ∧ x.kind ≤ 9) ∨ (11 ≤ x.kind ∧ x.kind ≤ 15) := by
   by_cases h1 : 4 ≤ x.kind ∧ x.kind ≤ 9
   ·exact .inl h1
   ·by_cases h2 : 11 ≤ x.kind ∧ x.kind ≤ 15
    ·exact .inr h2
    ·rw [VC h1 h2] at hk; cases hk
  have two : ∀ {k : Int} {ps : List Int} {w : Int}, xo k = some (ps, w) → wx k x.rat x.name x.date (qh x.sub) = 1 → w = 1 ∧ x.sub.length = ps.length ∧ ∀ i, i < x.sub.length → (x.sub.getD i nil).zt = ps.getD i 0 := by
   intro k ps w hs hn
   rw [Qs hs] at hn
   split at hn
   ·rename_i hc
    exact ⟨hn, xl.1 hc.2⟩
   ·cases hn
  generalize x.kind = k at h hk2 ⊢
  have hk3 : k = 4 ∨ k = 5 ∨ k = 6 ∨ k = 7 ∨ k = 8 ∨ k = 9 ∨ k = 11 ∨ k = 12 ∨ k = 13 ∨ k = 14 ∨ k = 15 := by omega
  right; right; right
  rcases hk3 with rfl | rfl | rfl | rfl | rfl | rfl | rfl | rfl | rfl | rfl | rfl
  iterate 5
   ·left
    obtain ⟨_, h2, h3⟩ := two rfl h
    exact ⟨by decide, h2, h3 0 (by rw [h2]; decide), h3 1 (by rw [h2]; decide)⟩
  ·right
   obtain ⟨_, h2, h3⟩ := two rfl h
   exact ⟨rfl, h2, h3 0 (by rw [h2]; decide), h3 1 (by rw [h2]; decide), h3 2 (by rw [h2]; decide)⟩
  all_goals
   obtain ⟨h1, _⟩ := two rfl h
   cases h1
 ·have hk : qt x.kind = false := by simpa using hk
  rw [wC hk] at h
  split at h
  ·rename_i hl
   simp only [qQ, Bool.and_eq_true] at hl
   obtain ⟨_, hl⟩ := hl
   split at hl
   ·rename_i h1
    simp only [Bool.and_eq_true, decide_eq_true_eq] at hl
    exact .inl ⟨h1, hl.1.1⟩
   ·split at hl
    ·rename_i h2; exact .inr (.inl h2)
    ·split at hl
     ·rename_i h3; exact .inr (.inr (.inl h3))
     ·cases hl
  ·cases h
theorem JF {x : Ex} (h : x.zt = 2) : ((x.kind = 11 ∨ x.kind = 12) ∧ x.sub.length = 2 ∧ (x.sub.getD 0 nil).zt = 1 ∧ (x.sub.getD 1 nil).zt = 1) ∨
  ((x.kind = 13 ∨ x.kind = 14) ∧ x.sub.length = 2 ∧ (x.sub.getD 0 nil).zt = 2 ∧ (x.sub.getD 1 nil).zt = 2) ∨ (x.kind = 15 ∧ x.sub.length = 1 ∧ (x.sub.getD 0 nil).zt = 2) := by
 rw [yY] at h
 by_cases hk : qt x.kind = true
 ·have hk2 : (4 ≤ x.kind ∧ x.kind ≤ 9) ∨ (11 ≤ x.kind ∧ x.kind ≤ 15) := by
   by_cases h1 : 4 ≤ x.kind ∧ x.kind ≤ 9
   ·exact .inl h1
   ·by_cases h2 : 11 ≤ x.kind ∧ x.kind ≤ 15
    ·exact .inr h2
    ·rw [VC h1 h2] at hk; cases hk
  have two : ∀ {k : Int} {ps : List Int} {w : Int}, xo k = some (ps, w) → wx k x.rat x.name x.date (qh x.sub) = 2 → w = 2 ∧ x.sub.length = ps.length ∧ ∀ i, i < x.sub.length → (x.sub.getD i nil).zt = ps.getD i 0 := by
   intro k ps w hs hn
   rw [Qs hs] at hn
   split at hn
   ·rename_i hc
    exact ⟨hn, xl.1 hc.2⟩
   ·cases hn
  generalize x.kind = k at h hk2 ⊢
  have hk3 : k = 4 ∨ k = 5 ∨ k = 6 ∨ k = 7 ∨ k = 8 ∨ k = 9 ∨ k = 11 ∨ k = 12 ∨ k = 13 ∨ k = 14 ∨ k = 15 := by omega
  rcases hk3 with rfl | rfl | rfl | rfl | rfl | rfl | rfl | rfl | rfl | rfl | rfl
  iterate 6
   ·obtain ⟨h1, _⟩ := two rfl h
    cases h1
  ·obtain ⟨_, h2, h3⟩ := two rfl h
   exact .inl ⟨.inl rfl, h2, h3 0 (by rw [h2]; decide), h3 1 (by rw [h2]; decide)⟩
  ·obtain ⟨_, h2, h3⟩ := two rfl h
   exact .inl ⟨.inr rfl, h2, h3 0 (by rw [h2]; decide), h3 1 (by rw [h2]; decide)⟩
  ·obtain ⟨_, h2, h3⟩ := two rfl h
   exact .inr (.inl ⟨.inl rfl, h2, h3 0 (by rw [h2]; decide), h3 1 (by rw [h2]; decide)⟩)
  ·obtain ⟨_, h2, h3⟩ := two rfl h
   exact .inr (.inl ⟨.inr rfl, h2, h3 0 (by rw [h2]; decide), h3 1 (by rw [h2]; decide)⟩)
  ·obtain ⟨_, h2, h3⟩ := two rfl h
   exact .inr (.inr ⟨rfl, h2, h3 0 (by rw [h2]; decide)⟩)
 ·have hk : qt x.kind = false := by simpa using hk
  rw [wC hk] at h
  split at h <;> cases h
end Ex
theorem Ub {f : List Fx} {a : List UInt8} {d : Int} (h : (j5 f a d).2 = false) : (j5 f a d).1 = [] := by
 unfold j5 at h ⊢
 split
 ·rename_i y hy; rw [hy] at h; cases h
 ·rfl
theorem Kw {f : List Fx} (hf : f.all okF = true) {a : List UInt8} {d : Int} (h : (fixR f a d).2 = 0) : errR (fixR f a d).1 = 0 := by
 unfold fixR at h ⊢
 split
 ·rename_i h1
  unfold j5 at h1 ⊢
  split at h1
  ·rename_i y hy
   have hm := List.mem_of_find?_eq_some hy
   have := List.all_eq_true.1 hf _ hm
   simp only [okF, Bool.and_eq_true, decide_eq_true_eq] at this
   exact this.2
  ·cases h1
 ·rename_i h1
  rw [if_neg h1] at h
  cases h
theorem U5 {k : Int} {a b : List UInt8} (ha : errR a = 0) (hb : errR b = 0) (h : (j6 k a b).2 = 0) : errR (j6 k a b).1 = 0 := by
 unfold j6 at h ⊢
 split
 ·rename_i h1
  rw [if_pos h1] at h
  split
  ·rename_i h2; rw [if_pos h2] at h; exact absurd h h2
  ·simp only; split <;> assumption
 ·rename_i h1
  rw [if_neg h1] at h
  split
  ·rename_i h2; rw [if_pos h2] at h; exact absurd h h2
  ·simp only; split <;> assumption
theorem ze0 {k : Int} {a b : List UInt8} (ha : errR a = 0) (hb : errR b = 0) (h : (opR k a b).2 = 0) : errR (opR k a b).1 = 0 := by
 unfold opR at h ⊢
 split
 ·rename_i h1; rw [if_pos h1] at h; exact (zau ha hb h).1
 ·rename_i h1
  rw [if_neg h1] at h
  split
  ·rename_i h2; rw [if_pos h2] at h; exact (zb5 ha hb h).1
  ·rename_i h2
   rw [if_neg h2] at h
   split
   ·rename_i h3; rw [if_pos h3] at h; exact (zat ha hb h).1
   ·rename_i h3
    rw [if_neg h3] at h
    exact U5 ha hb h
theorem xy {a : List UInt8} (h : errR a = 0) : a.length ≤ 2003 := by
 have h1 := (UO h).2.2.1
 rw [← h1]
 unfold qstr wz
 have g1 := v7 (decide ((qv a).num < 0)) (qv a).num.natAbs
 have g2 := v7 (decide (((qv a).den : Int) < 0)) ((qv a).den : Int).natAbs
 split
 ·omega
 ·simp only [List.length_append, List.length_cons, List.length_nil]
  omega
theorem Ex.y3 {f : List Fx} (hf : f.all okF = true) (day : Int) : ∀ x : Ex, x.zt = 1 → (x.ev f day).e = 0 → errR (x.ev f day).v = 0
 | .mk k r n d s, hs, he => by
  have hc := Ex.ZJ hs
  simp only [Ex.kind, Ex.rat, Ex.sub] at hc
  rw [Ex.ev] at he ⊢
  simp only [evN] at he ⊢
  unfold valN at he ⊢
  rcases hc with ⟨rfl, h1⟩ | rfl | rfl | ⟨⟨h1, h2⟩, h3, h4, h5⟩ | ⟨rfl, h3, h4, h5, h6⟩
  ·simpa using h1
  ·simp only [show ¬ (2 : Int) = 1 by decide, if_false, if_true] at he ⊢
   exact Kw hf he
  ·simp only [show ¬ (3 : Int) = 1 by decide, show ¬ (3 : Int) = 2 by decide, if_false, if_true] at he ⊢
   exact Kw hf he
  ·rw [if_neg (by omega), if_neg (by omega), if_neg (by omega), if_neg (by omega)] at he ⊢
   rw [Ex.q5 (by omega), Ex.q5 (by omega)] at he ⊢
   unfold uf at he ⊢
   have w0 : s.getD 0 Ex.nil ∈ s := by simp [List.getD, List.getElem?_eq_getElem (show 0 < s.length by omega)]
   have w1 : s.getD 1 Ex.nil ∈ s := by simp [List.getD, List.getElem?_eq_getElem (show 1 < s.length by omega)]
   split
   ·rename_i g; rw [if_pos g] at he; exact absurd he g
   ·rename_i g
    rw [if_neg g] at he
    split
    ·rename_i g2; rw [if_pos g2] at he; exact absurd he g2
    ·rename_i g2
     rw [if_neg g2] at he
     rw [Classical.not_not] at g g2
     exact ze0 (Ex.y3 hf day _ h4 g) (Ex.y3 hf day _ h5 g2) he
  ·simp only [show ¬ (9 : Int) = 1 by decide, show ¬ (9 : Int) = 2 by decide, show ¬ (9 : Int) = 3 by decide, if_false, if_true] at he ⊢
   rw [Ex.q5 (by omega), Ex.q5 (by omega), Ex.q5 (by omega)] at he ⊢
   have w1 : s.getD 1 Ex.nil ∈ s := by simp [List.getD, List.getElem?_eq_getElem (show 1 < s.length by omega)]
   have w2 : s.getD 2 Ex.nil ∈ s := by simp [List.getD, List.getElem?_eq_getElem (show 2 < s.length by omega)]
   split
   ·rename_i g; rw [if_pos g] at he; exact absurd he g
   ·rename_i g
    rw [if_neg g] at he
    split
    ·rename_i g2; rw [if_pos g2] at he; exact Ex.y3 hf day _ h5 he
    ·rename_i g2; rw [if_neg g2] at he; exact Ex.y3 hf day _ h6 he
termination_by x => x.size
decreasing_by
 all_goals
  rw [Ex.size]
  have a0 := Ex.zH (s := s) (i := 0)
  have a1 := Ex.zH (s := s) (i := 1)
  have a2 := Ex.zH (s := s) (i := 2)
  first
  | (have := a0 (by omega); omega)
  | (have := a1 (by omega); omega)
  | (have := a2 (by omega); omega)
end Go.Nov
end

/- Values of expressions, with the errors that come first. -/
section
namespace Go.Nov
def askE (x : Ex) (want day : Int) (f : List Fx) (c : List Ch) : Int := if x.errX ≠ 0 then x.errX else if x.zt ≠ want then 32 else if errE f c ≠ 0 then errE f c else if dayB day then 0 else 2
def zZ (x : Ex) (day : Int) (f : List Fx) (c : List Ch) : List UInt8 × Int := if askE x 1 day f c ≠ 0 then ([], askE x 1 day f c) else if (x.ev f day).e ≠ 0 then ([], (x.ev f day).e) else ((x.ev f day).v, 0)
theorem zer {x : Ex} {want day : Int} {f : List Fx} {c : List Ch} (h : x.errX ≠ 0) : askE x want day f c = x.errX := by unfold askE; rw [if_pos h]
theorem zex {x : Ex} {want day : Int} {f : List Fx} {c : List Ch} (h : x.errX = 0) (h2 : ¬ x.zt = want) : askE x want day f c = 32 := by unfold askE; rw [if_neg (by rw [h]; simp), if_pos h2]
theorem zf5 {x : Ex} {want day : Int} {f : List Fx} {c : List Ch} (h : x.errX = 0) (h2 : x.zt = want) : askE x want day f c = if errE f c = 0 then (if dayB day = true then 0 else 2) else errE f c := by
 unfold askE
 rw [if_neg (by rw [h]; simp), if_neg (by rw [h2]; simp)]
 by_cases g : errE f c = 0
 ·rw [if_pos g, if_neg (by rw [g]; simp)]
 ·rw [if_neg g, if_pos g]
theorem YY {x : Ex} {want day : Int} {f : List Fx} {c : List Ch} (h : askE x want day f c = 0) : x.errX = 0 ∧ x.zt = want ∧ errE f c = 0 ∧ dayB day = true := by
 unfold askE at h
 split at h
 ·rename_i g; exact absurd h g
 ·rename_i g1
  split at h
  ·cases h
  ·rename_i g2
   split at h
   ·rename_i g; exact absurd h g
   ·rename_i g3
    split at h
    ·rename_i g4
     exact ⟨Classical.not_not.1 g1, Classical.not_not.1 g2, Classical.not_not.1 g3, g4⟩
    ·cases h
end Go.Nov
end

/- Expressions of two parts: their values. -/
section
namespace Go.Nov
open Go.Sx
structure Pt (x y : Ex) : Prop where
 x0 : x.errX = 0
 x1 : x.zt = 1
 y0 : y.errX = 0
 y1 : y.zt = 1
 s : x.size + y.size < 500
 d1 : x.depth < 60
 d2 : y.depth < 60
section
variable {x y : Ex} {day : Int} {f : List Fx} {c : List Ch} (h : Pt x y)
include h
end
end Go.Nov
end

/- Truth values of two parts, of one, and the choice between two parts. -/
section
namespace Go.Nov
open Go.Sx
def envD (day : Int) (f : List Fx) (c : List Ch) : Int := if errE f c ≠ 0 then errE f c else if dayB day then 0 else 2
theorem zef {x : Ex} {w day : Int} {f : List Fx} {c : List Ch} (h : x.errX = 0) (h1 : x.zt = w) : askE x w day f c = envD day f c := by
 unfold askE envD
 rw [if_neg (by rw [h]; simp), if_neg (by rw [h1]; simp)]
section
variable {x : Ex} {day : Int} {f : List Fx} {c : List Ch}
theorem xw (h : x.errX = 0) (h1 : x.zt = 1) : zZ x day f c = if envD day f c ≠ 0 then ([], envD day f c) else if (x.ev f day).e ≠ 0 then ([], (x.ev f day).e) else ((x.ev f day).v, 0) := by
 unfold zZ; rw [zef h h1]
end
structure Lg (p q x y : Ex) : Prop where
 p0 : p.errX = 0
 p1 : p.zt = 2
 q0 : q.errX = 0
 q1 : q.zt = 2
 x0 : x.errX = 0
 x1 : x.zt = 1
 y0 : y.errX = 0
 y1 : y.zt = 1
 s : p.size + q.size + x.size + y.size < 500
 dp : p.depth < 60
 dq : q.depth < 60
 dx : x.depth < 60
 dy : y.depth < 60
section
variable {p q x y : Ex} {day : Int} {f : List Fx} {c : List Ch} (h : Lg p q x y)
include h
end
end Go.Nov
end

/- Tables: what was put last is found, all else stays, and the order of different keys does not matter. -/
section
namespace Go.Nov
theorem YW : ∀ s t : List UInt8, Op.bytesLess s t = true ∨ s = t ∨ Op.bytesLess t s = true
 | [], [] => .inr (.inl rfl)
 | [], _ :: _ => .inl rfl
 | _ :: _, [] => .inr (.inr rfl)
 | a :: s, b :: t => by
  simp only [Op.bytesLess, Bool.or_eq_true, Bool.and_eq_true, decide_eq_true_eq, beq_iff_eq]
  by_cases h : a = b
  ·subst h
   rcases YW s t with g | g | g
   ·exact .inl (.inr ⟨rfl, g⟩)
   ·exact .inr (.inl (by rw [g]))
   ·exact .inr (.inr (.inr ⟨rfl, g⟩))
  ·rcases UInt8.lt_or_lt_of_ne h with g | g
   ·exact .inl (.inl g)
   ·exact .inr (.inr (.inl g))
structure OrdT {α : Type} (c : α → α → Int) : Prop extends OrdK c where
 irr : ∀ a, c a a = 0
 tot : ∀ a b, c a b < 0 ∨ c a b = 0 ∨ c b a < 0
 sym : ∀ a b, c a b = 0 → c b a = 0
 eqt : ∀ a b d, c a b = 0 → c b d = 0 → c a d = 0
 eq2 : ∀ a b d, c a b = 0 → c b d < 0 → c a d < 0
theorem Vd : OrdT cmpF where
 toOrdK := Q9
 irr a := by rw [jU]; exact ⟨rfl, rfl⟩
 tot a b := by
  rw [ky, jU, ky]
  rcases YW a.name b.name with h | h | h
  ·exact .inl (.inl h)
  ·rcases Int.lt_trichotomy a.date b.date with g | g | g
   ·exact .inl (.inr ⟨h, g⟩)
   ·exact .inr (.inl ⟨h, g⟩)
   ·exact .inr (.inr (.inr ⟨h.symm, g⟩))
  ·exact .inr (.inr (.inl h))
 sym a b h := by rw [jU] at h ⊢; exact ⟨h.1.symm, h.2.symm⟩
 eqt a b d h g := by rw [jU] at h g ⊢; exact ⟨h.1.trans g.1, h.2.trans g.2⟩
 eq2 a b d h g := by rw [jU] at h; rw [ky] at g ⊢; rw [h.1, h.2]; exact g
section
variable {α : Type} {c : α → α → Int} {z x y : α} (hk : OrdT c)
theorem kq {w : α} : ∀ {l : List α}, w ∈ zw c x l → w = x ∨ w ∈ l
 | [], h => by simp [zw] at h; exact .inl h
 | o :: l, h => by
  unfold zw at h
  split at h
  ·rcases List.mem_cons.1 h with rfl | h
   ·exact .inr (by simp)
   ·exact (kq h).imp id fun g => by simp [g]
  ·split at h
   ·rcases List.mem_cons.1 h with rfl | h
    ·exact .inl rfl
    ·exact .inr (by simp [h])
   ·rcases List.mem_cons.1 h with rfl | h
    ·exact .inl rfl
    ·exact .inr h
include hk
theorem ze2 {a b : α} (h : ¬ c a b < 0) (g : c a b ≠ 0) : c b a < 0 := by
 rcases hk.tot a b with k | k | k
 ·exact absurd k h
 ·exact absurd k g
 ·exact k
theorem yS : ∀ {l : List α}, l.Pairwise (fun a b => c a b < 0) → (zw c x l).Pairwise fun a b => c a b < 0
 | [], _ => by simp [zw]
 | o :: l, h => by
  obtain ⟨h1, h2⟩ := List.pairwise_cons.1 h
  unfold zw
  split
  ·rename_i g
   refine List.pairwise_cons.2 ⟨fun w hw => ?_, yS h2⟩
   rcases kq hw with rfl | hw
   ·exact g
   ·exact h1 w hw
  ·rename_i g
   split
   ·rename_i k
    exact List.pairwise_cons.2 ⟨fun w hw => hk.eq2 _ _ _ (hk.sym _ _ k) (h1 w hw), h2⟩
   ·rename_i k
    have := ze2 hk g k
    refine List.pairwise_cons.2 ⟨fun w hw => ?_, h⟩
    rcases List.mem_cons.1 hw with rfl | hw
    ·exact this
    ·exact hk.lt _ _ _ this (h1 w hw)
theorem uT {k : α} {p : α → Bool} (hp : ∀ w, p w = decide (c w k = 0)) : ∀ l : List α, (zw c x l).find? p = if c x k = 0 then some x else l.find? p
 | [] => by
  simp only [zw, List.find?_cons, List.find?_nil, hp]
  by_cases h : c x k = 0 <;> simp [h]
 | o :: l => by
  unfold zw
  split
  ·rename_i g
   rw [List.find?_cons, uT hp l, List.find?_cons, hp o]
   by_cases h : c x k = 0
   ·have : c o k ≠ 0 := by have := hk.eq _ _ _ g h; omega
    simp [h, this]
   ·simp only [h, if_false]
  ·split
   ·rename_i g
    rw [List.find?_cons, List.find?_cons, hp x, hp o]
    by_cases h : c x k = 0
    ·simp [h]
    ·have : c o k ≠ 0 := fun h0 => h (hk.eqt _ _ _ (hk.sym _ _ g) h0)
     simp [h, this]
   ·rw [List.find?_cons, hp x]
    by_cases h : c x k = 0 <;> simp [h]
theorem Ue : ∀ {l : List α}, l.Pairwise (fun a b => c a b < 0) → ordB c z l = true := fun {l} h => by
 refine uE fun j hj => ?_
 have := List.pairwise_iff_getElem.1 h j (j + 1) (by omega) hj (by omega)
 simpa [List.getD, List.getElem?_eq_getElem (show j < l.length by omega), List.getElem?_eq_getElem hj] using this
end
theorem Va {f : List Fx} {c : List Ch} {x : Fx} (h : errE f c = 0) (hx : okF x = true) (hl : (zw cmpF x f).length ≤ 1000) : errE (zw cmpF x f) c = 0 := by
 obtain ⟨h1, h2, h3, h4, h5⟩ := Zd.1 h
 refine Zd.2 ⟨by omega, ?_, h3, Ue Vd (yS Vd (yI Q9 h4)), h5⟩
 rw [List.all_eq_true] at h2 ⊢
 intro w hw
 rcases kq hw with rfl | hw
 ·exact hx
 ·exact h2 w hw
theorem JM {f : List Fx} {x : Fx} {a : List UInt8} {d : Int} : j5 (zw cmpF x f) a d = if x.name = a ∧ x.date = d then (x.value, true) else j5 f a d := by
 have hp : ∀ w : Fx, (decide (w.name = a) && decide (w.date = d)) = decide (cmpF w ⟨a, d, []⟩ = 0) := fun w => by
  have := jU (a := w) (b := ⟨a, d, []⟩)
  simp only at this
  by_cases g1 : w.name = a <;> by_cases g2 : w.date = d <;> simp [this, g1, g2]
 unfold j5
 rw [uT Vd (k := ⟨a, d, []⟩) hp]
 have e := jU (a := x) (b := ⟨a, d, []⟩)
 simp only at e
 by_cases g : x.name = a ∧ x.date = d
 ·rw [if_pos (e.2 g), if_pos g]
 ·rw [if_neg fun k => g (e.1 k), if_neg g]
theorem K4 {f : List Fx} {c : List Ch} {x : Fx} (h : (putF f c x).2 = 0) : errE f c = 0 ∧ okF x = true ∧ (zw cmpF x f).length ≤ 1000 ∧ putF f c x = ((zw cmpF x f, c), 0) := by
 unfold putF at h ⊢
 split at h
 ·rename_i g; exact absurd h g
 rename_i g1
 rw [if_neg g1]
 split at h
 ·cases h
 rename_i g2
 rw [if_neg g2]
 split at h
 ·rename_i g; exact absurd h g
 rename_i g3
 rw [if_neg g3]
 split at h
 ·cases h
 rename_i g4
 rw [if_neg g4]
 refine ⟨Classical.not_not.1 g1, ?_, by omega, rfl⟩
 unfold okF
 have : (qK x.name && dayB x.date) = true := by simpa using g2
 rw [this, Classical.not_not.1 g3]; rfl
end Go.Nov
end

/- What does not matter for a value: a name that is not mentioned, and whether a day is named. -/
section
namespace Go.Nov
open Go.Sx
namespace Ex
mutual
def men (a : List UInt8) : Ex → Bool
 | mk _ _ n _ s => decide (n = a) || mens a s
def mens (a : List UInt8) : List Ex → Bool
 | [] => false
 | x :: l => men a x || mens a l
end
mutual
def fixX (day : Int) : Ex → Ex
 | mk k r n d s => mk (if k = 3 then 2 else k) r n (if k = 3 then day else d) (fixs day s)
def fixs (day : Int) : List Ex → List Ex
 | [] => []
 | x :: l => fixX day x :: fixs day l
end
mutual
theorem ua (day : Int) : ∀ x : Ex, (fixX day x).size = x.size
 | mk k r n d s => by rw [fixX, size, size, ZP day s]
theorem ZP (day : Int) : ∀ s : List Ex, zR (fixs day s) = zR s
 | [] => rfl
 | x :: l => by rw [fixs, zR, zR, ua day x, ZP day l]
end
mutual
theorem Zx (day : Int) : ∀ x : Ex, (fixX day x).depth = x.depth
 | mk k r n d s => by rw [fixX, depth, depth, uQ day s]
theorem uQ (day : Int) : ∀ s : List Ex, qM (fixs day s) = qM s
 | [] => rfl
 | x :: l => by rw [fixs, qM, qM, Zx day x, uQ day l]
end
mutual
theorem Qo (day : Int) : ∀ x : Ex, (fixX day x).zx = x.zx
 | mk k r n d s => by rw [fixX, zx, zx, Za day s]
theorem Za (day : Int) : ∀ s : List Ex, zN (fixs day s) = zN s
 | [] => rfl
 | x :: l => by rw [fixs, zN, zN, Qo day x, Za day l]
end
theorem yp (day : Int) : ∀ s : List Ex, (fixs day s).length = s.length
 | [] => rfl
 | x :: l => by rw [fixs, List.length_cons, List.length_cons, yp day l]
theorem J8 (day : Int) : ∀ (s : List Ex) (i : Nat), i < s.length → (fixs day s).getD i nil = fixX day (s.getD i nil)
 | [], i, h => absurd h (Nat.not_lt_zero i)
 | x :: l, 0, _ => by rw [fixs]; rfl
 | x :: l, i + 1, h => by
  rw [fixs]
  exact J8 day l i (by simpa using h)
theorem XU {k v : Int} (hk : qt k = true) (h : v ∈ qf k) : v ≠ 0 := by
 have h2 : (4 ≤ k ∧ k ≤ 9) ∨ (11 ≤ k ∧ k ≤ 15) := by
  by_cases h1 : 4 ≤ k ∧ k ≤ 9
  ·exact .inl h1
  ·by_cases h2 : 11 ≤ k ∧ k ≤ 15
   ·exact .inr h2
   ·rw [VC h1 h2] at hk; cases hk
 have h3 : k = 4 ∨ k = 5 ∨ k = 6 ∨ k = 7 ∨ k = 8 ∨ k = 9 ∨ k = 11 ∨ k = 12 ∨ k = 13 ∨ k = 14 ∨ k = 15 := by omega
 rcases h3 with rfl | rfl | rfl | rfl | rfl | rfl | rfl | rfl | rfl | rfl | rfl <;> (revert v; decide)
mutual
theorem Wi {day : Int} (hd : dayB day = true) : ∀ x : Ex, x.zt ≠ 0 → (fixX day x).zt = x.zt
 | mk k r n d s, h => by
  rw [fixX, zt, zt]
  rw [zt] at h
  by_cases hk : qt k = true
  ·have k3 : k ≠ 3 := fun g => by rw [g] at hk; cases hk
   rw [if_neg k3, if_neg k3]
   have hs : qh s = qf k := by
    unfold wx at h
    rw [if_pos hk] at h
    by_cases g : r = [] ∧ n = [] ∧ d = 0 ∧ qh s = qf k
    ·exact g.2.2.2
    ·rw [if_neg g] at h; exact absurd rfl h
   rw [ZF hd s fun v hv => XU hk (by rw [← hs]; exact hv)]
  ·have hk : qt k = false := by simpa using hk
   rw [wC hk] at h ⊢
   by_cases g : qQ k r n d (qh s).length = true
   ·have hl : (qh s).length = 0 := by
     unfold qQ at g
     simp only [Bool.and_eq_true, decide_eq_true_eq] at g
     exact g.1
    have hs : s = [] := List.length_eq_zero_iff.1 (by rw [← qZ s]; exact hl)
    subst hs
    by_cases k3 : k = 3
    ·rw [if_pos k3, if_pos k3, if_pos g]
     subst k3
     rw [wC (by rfl), if_pos]
     unfold qQ at g ⊢
     simp only [Bool.and_eq_true, decide_eq_true_eq, show ¬ (3 : Int) = 1 by decide, show ¬ (3 : Int) = 2 by decide, show ¬ (2 : Int) = 1 by decide, if_false, if_true] at g ⊢
     exact ⟨rfl, ⟨g.2.1.1, g.2.1.2⟩, hd⟩
    ·rw [if_neg k3, if_neg k3, fixs, wC hk]
   ·rw [if_neg g] at h; exact absurd rfl h
theorem ZF {day : Int} (hd : dayB day = true) : ∀ s : List Ex, (∀ v ∈ qh s, v ≠ 0) → qh (fixs day s) = qh s
 | [], _ => rfl
 | x :: l, h => by
  rw [fixs, qh, qh]
  rw [qh] at h
  rw [Wi hd x (h _ (by simp)), ZF hd l fun v hv => h v (by simp [hv])]
end
theorem zbj (f : List Fx) (day k : Int) (r n : List UInt8) (d : Int) (l : List Ev) : evN f day (if k = 3 then 2 else k) r n (if k = 3 then day else d) l = evN f day k r n d l := by
 by_cases k3 : k = 3
 ·subst k3
  rw [if_pos rfl, if_pos rfl]
  rfl
 ·rw [if_neg k3, if_neg k3]
mutual
theorem U6 (f : List Fx) (day : Int) : ∀ x : Ex, (fixX day x).ev f day = x.ev f day
 | mk k r n d s => by rw [fixX, ev, ev, Ke f day s, zbj]
theorem Ke (f : List Fx) (day : Int) : ∀ s : List Ex, evs f day (fixs day s) = evs f day s
 | [] => rfl
 | x :: l => by rw [fixs, evs, evs, U6 f day x, Ke f day l]
end
mutual
theorem Yc {f g : List Fx} {a : List UInt8} (hf : ∀ (n : List UInt8) (d : Int), n ≠ a → fixR g n d = fixR f n d) (day : Int) : ∀ x : Ex, x.men a = false → x.ev g day = x.ev f day
 | mk k r n d s, h => by
  rw [men, Bool.or_eq_false_iff] at h
  have hn : n ≠ a := of_decide_eq_false h.1
  rw [ev, ev, Kb hf day s h.2]
  unfold evN valN
  rw [hf n d hn, hf n day hn]
theorem Kb {f g : List Fx} {a : List UInt8} (hf : ∀ (n : List UInt8) (d : Int), n ≠ a → fixR g n d = fixR f n d) (day : Int) : ∀ s : List Ex, mens a s = false → evs g day s = evs f day s
 | [], _ => rfl
 | x :: l, h => by
  rw [mens, Bool.or_eq_false_iff] at h
  rw [evs, evs, Yc hf day x h.1, Kb hf day l h.2]
end
theorem Qp (a : List UInt8) : ∀ (s : List Ex) (i : Nat), i < s.length → mens a (s.take (i + 1)) = (mens a (s.take i) || men a (s.getD i nil))
 | [], i, h => absurd h (Nat.not_lt_zero i)
 | x :: l, 0, _ => by
  show (men a x || mens a []) = (mens a [] || men a x)
  rw [mens, Bool.or_false, Bool.false_or]
 | x :: l, i + 1, h => by
  rw [List.take_succ_cons, List.take_succ_cons, mens, mens, Qp a l i (by simpa using h), Bool.or_assoc]
  rfl
theorem Wj (a : List UInt8) : ∀ (s : List Ex) (i : Nat), i < s.length → men a (s.getD i nil) = true → mens a s = true
 | [], i, h, _ => absurd h (Nat.not_lt_zero i)
 | x :: l, 0, _, g => by
  rw [mens, show men a x = true from g]; rfl
 | x :: l, i + 1, h, g => by
  rw [mens, Wj a l i (by simpa using h) g, Bool.or_true]
end Ex
theorem Xr {x : Ex} {day : Int} {f : List Fx} {c : List Ch} (h : x.errX = 0) (h1 : x.zt = 1) (hd : dayB day = true) : zZ (x.fixX day) day f c = zZ x day f c := by
 have e : (x.fixX day).zt = 1 := by rw [Ex.Wi hd x (by rw [h1]; decide), h1]
 have e0 : (x.fixX day).errX = 0 := by
  unfold Ex.errX at h ⊢
  rw [Ex.ua, Ex.Zx, e, ← h1]
  exact h
 rw [xw e0 e, xw h h1, Ex.U6]
theorem Qi {x : Ex} {day : Int} {f : List Fx} {c : List Ch} {y : Fx} (h : x.errX = 0) (h1 : x.zt = 1) (hp : (putF f c y).2 = 0) (hm : x.men y.name = false) : zZ x day (putF f c y).1.1 (putF f c y).1.2 = zZ x day f c := by
 obtain ⟨p1, p2, p3, p4⟩ := K4 hp
 rw [p4]
 show zZ x day (zw cmpF y f) c = _
 have e : envD day (zw cmpF y f) c = envD day f c := by unfold envD; rw [Va p1 p2 p3, p1]
 have hf : ∀ (n : List UInt8) (d : Int), n ≠ y.name → fixR (zw cmpF y f) n d = fixR f n d := fun n d hn => by
  have q : j5 (zw cmpF y f) n d = j5 f n d := JM.trans (if_neg fun g => hn g.1.symm)
  unfold fixR
  rw [q]
 rw [xw h h1, xw h h1, e, Ex.Yc hf day x hm]
end Go.Nov
end

/- Whether a name is mentioned; an expression with the day named. -/
section
set_option maxRecDepth 100000
open Go Go.Sx Go.Proofs Go.Nov
namespace Go.Proofs.Tryd
attribute [local simp] eqKV eqA eqA0 eqH eqB eqL eqL0
noncomputable def K14 : List Go.Sx.Item := [.code (Tryd.f14.body.getD .skip)]
noncomputable def K12 : List Go.Sx.Item := [.code (Tryd.f12.body.getD .skip)]
def zcc (n : Nat) : Ctr := ctrP true (fun p : Ex × List UInt8 => [p.1.exA, .str p.2]) (fun p => p.1.size < n ∧ p.1.size < 2 ^ 40) (fun p r => r = p.1.men p.2) (fun _ (r : Bool) => (.bool r, []))
def SMn (a : List UInt8) (i : Nat) : KV := [(1, .str a), (2, .ptr 0 0), (5, .int .i64 (i : Int))]
theorem KL (n : Nat) (ih : zb Tryd.prog 14 (zcc n)) : zb Tryd.prog 14 (zcc (n + 1)) := by
 refine ze (fn := Tryd.f14) (c := Tryd.f14.body.getD .skip) rfl rfl rfl fun p hp O w0 Q hq => ?_
 replace hq := hq _ rfl
 obtain ⟨x, a⟩ := p
 obtain ⟨hxn, hxs⟩ := hp
 simp only at hxn hxs hq
 rw [Ex.size_eq] at hxn hxs
 obtain ⟨k, r, m, d, s⟩ := x
 simp only [Ex.sub] at hxn hxs
 rw [Ex.men] at hq
 have hlen := Ex.qc s
 refine zc.run hmix (wZ ih) [1, 2, 5] 400 (T := .ite (decide (m = a)) (.leaf (.ret [.bool true] [.box [.int .u8 k, .str r, .str m, .int .i64 d, .sl s.length 5 (Ex.exG s)]])) (.leaf (.loop (Prod.fst (lps K14 0)) (Prod.snd (lps K14 0)) [(1, .str a), (2, .ptr 0 0), (5, .int .i64 0)] [.box [.int .u8 k, .str r, .str m, .int .i64 d, .sl s.length 5 (Ex.exG s)]]))) (by kernel_rfl) ?_
 simp only [Tree.holds, zd, inR, lo, hi, Int.toNat_natCast]
 refine ⟨fun h => ?_, fun h => ?_⟩
 ·rw [h, Bool.true_or] at hq
  exact RetR.scal hq rfl (by simp [resV])
 rw [h, Bool.false_or] at hq
 refine zc.loop (ι := {i : Nat // i ≤ s.length ∧ Ex.mens a (s.take i) = false}) (fun i => SMn a i.1) (fun _ => boxE k r m d s) (fun i => s.length - i.1) ⟨0, Nat.zero_le _, rfl⟩ 0 ?_ ?_ (by kernel_rfl)
 ·exact ⟨by simp [SMn], by simp [boxE, Ex.exS, za], by kernel_rfl, Nat.zero_le _⟩
 ·rintro ⟨i, hil, him⟩
  refine zc.run hmix (wZ ih) [1, 2, 5] 400 (T := .ite (decide ((↑i : Int) < s.length)) (.side ((0 : Int) ≤ i ∧ (↑i : Int) < s.length) (.ex (fun (x : Ex × List UInt8) => eqL [AV.agg [AV.int .u8 (Ex.kind (List.getD s (Int.toNat (↑i : Int)) Ex.nil)), AV.str (Ex.rat (List.getD s (Int.toNat (↑i : Int)) Ex.nil)), AV.str (Ex.name (List.getD s (Int.toNat (↑i : Int)) Ex.nil)), AV.int .i64 (Ex.date (List.getD s (Int.toNat (↑i : Int)) Ex.nil)), AV.sl (List.length (Ex.sub (List.getD s (Int.toNat (↑i : Int)) Ex.nil))) 5 (Ex.deep (List.getD s (Int.toNat (↑i : Int)) Ex.nil))], AV.str a] [AV.agg [AV.int .u8 x.1.kind, AV.str x.1.rat, AV.str x.1.name, AV.int .i64 x.1.date, AV.sl x.1.sub.length 5 (Ex.exG x.1.sub)], AV.str x.2] ∧ Ex.size x.1 < n ∧ Ex.size x.1 < 1099511627776) fun n => .all (fun (r : Bool) => r = Ex.men n.2 n.1) fun n => .ite n (.leaf (.ret [.bool true] [.box [.int .u8 k, .str r, .str m, .int .i64 d, .sl s.length 5 (Ex.exG s)]])) (.side (inR .i64 ((↑i : Int) + (1 : Int))) (.leaf (.back 0 [(1, .str a), (2, .ptr 0 0), (5, .int .i64 ((↑i : Int) + (1 : Int)))] [.box [.int .u8 k, .str r, .str m, .int .i64 d, .sl s.length 5 (Ex.exG s)]]))))) (.leaf (.ret [.bool false] [.box [.int .u8 k, .str r, .str m, .int .i64 d, .sl s.length 5 (Ex.exG s)]]))) (by kernel_rfl) ?_
  simp only [Tree.holds, zd, inR, lo, hi, Int.toNat_natCast]
  refine ⟨fun hlt => ?_, fun hge => ?_⟩
  ·have hlt : i < s.length := by have := of_decide_eq_true hlt; omega
   have hg := Ex.zH hlt
   refine ⟨by omega, fun _ => ⟨(s.getD i Ex.nil, a), ⟨⟨⟨⟨rfl, rfl⟩, rfl, rfl, ⟨rfl, rfl⟩, ⟨rfl, rfl, Ex.qU _⟩, trivial⟩, rfl, trivial⟩, by show (s.getD i Ex.nil).size < n; omega, by show (s.getD i Ex.nil).size < 2 ^ 40; omega⟩, ⟨_, rfl⟩, ?_⟩⟩
   rintro b hb
   replace hb : b = (s.getD i Ex.nil).men a := hb
   refine ⟨fun h1 => ?_, fun h1 => ?_⟩
   ·rw [Ex.Wj a s i hlt (by rw [← hb]; exact h1)] at hq
    exact RetR.scal hq rfl (by simp [resV])
   ·refine ⟨by omega, fun _ => ?_⟩
    rw [if_pos trivial]
    refine ⟨⟨i + 1, hlt, by rw [Ex.Qp a s i hlt, him, ← hb, h1]; rfl⟩, by show s.length - (i + 1) < s.length - i; omega, by simp [SMn], by simp [boxE, Ex.exS, za], by kernel_rfl, Nat.zero_le _⟩
  ·have hge : i = s.length := by have := of_decide_eq_false hge; omega
   subst hge
   rw [List.take_length] at him
   rw [him] at hq
   exact RetR.scal hq rfl (by simp [resV])
def K8 : Ctr := ctrP true (fun p : Ex × List UInt8 => [p.1.exA, .str p.2]) (fun p => p.1.size < 2 ^ 40) (fun p r => r = p.1.men p.2) (fun _ (r : Bool) => (.bool r, []))
theorem zam : zb Tryd.prog 14 K8 := wM (fun p => p.1.size) KL
def zcs (n : Nat) : Ctr := ctrP false (fun p : Ex × Int => [p.1.exA, .int .i64 p.2]) (fun p => p.1.size < n ∧ p.1.size < 2 ^ 40) (fun _ (_ : Unit) => True) (fun p _ => (exD (p.1.fixX p.2), []))
def SFx (day : Int) (i : Nat) : KV := [(1, .int .i64 day), (2, .ptr 0 0), (4, .ptr 1 0), (5, .ptr 2 0), (6, .int .i64 (i : Int))]
def HFx1 (k : Int) (r m : List UInt8) (d : Int) (s : List Ex) (k' d' : Int) : Heap := [.box [.int .u8 k, .str r, .str m, .int .i64 d, Ex.exS s], .box [.int .u8 0, .str [], .str [], .int .i64 0, .nils], .box [.int .u8 k', .str r, .str m, .int .i64 d', .osl 3 5 0 0]]
def HFx (k : Int) (r m : List UInt8) (d : Int) (s t : List Ex) (k' d' : Int) (i : Nat) : Heap := [.box [.int .u8 k, .str r, .str m, .int .i64 d, Ex.exS s], .box [.int .u8 0, .str [], .str [], .int .i64 0, .nils], .box [.int .u8 k', .str r, .str m, .int .i64 d', .osl 3 5 0 i], .arr i 5 (Ex.exG t)]
theorem KN (n : Nat) (ih : zb Tryd.prog 12 (zcs n)) : zb Tryd.prog 12 (zcs (n + 1)) := by
 refine ze (fn := Tryd.f12) (c := Tryd.f12.body.getD .skip) rfl rfl rfl fun p hp O w0 Q hq => ?_
 replace hq := hq () trivial
 obtain ⟨x, day⟩ := p
 obtain ⟨h1, h2⟩ := hp
 simp only at h1 h2 hq
 rw [Ex.size_eq] at h1 h2
 obtain ⟨k, r, m, d, s⟩ := x
 simp only [Ex.sub] at h1 h2
 rw [Ex.fixX] at hq
 have hlen := Ex.qc s
 refine zc.run hmix (wZ ih) [1, 2, 4, 5, 6] 400 (T := .ite (decide (k = 3)) (.leaf (.loop (Prod.fst (lps K12 0)) (Prod.snd (lps K12 0)) [(1, .int .i64 day), (2, .ptr 0 0), (4, .ptr 1 0), (5, .ptr 2 0), (6, .int .i64 0)] [.box [.int .u8 k, .str r, .str m, .int .i64 d, .sl s.length 5 (Ex.exG s)], .box [.int .u8 0, .str (Array.toList #[]), .str (Array.toList #[]), .int .i64 0, .nils], .box [.int .u8 2, .str r, .str m, .int .i64 day, .nils]])) (.leaf (.loop (Prod.fst (lps K12 0)) (Prod.snd (lps K12 0)) [(1, .int .i64 day), (2, .ptr 0 0), (4, .ptr 1 0), (5, .ptr 2 0), (6, .int .i64 0)] [.box [.int .u8 k, .str r, .str m, .int .i64 d, .sl s.length 5 (Ex.exG s)], .box [.int .u8 0, .str (Array.toList #[]), .str (Array.toList #[]), .int .i64 0, .nils], .box [.int .u8 k, .str r, .str m, .int .i64 d, .nils]]))) (by kernel_rfl) ?_
 simp only [Tree.holds, zd, inR, lo, hi, Int.toNat_natCast]
 have hfl := Ex.yp day s
 obtain ⟨t, ht⟩ : ∃ t, Ex.fixs day s = t := ⟨_, rfl⟩
 have htg : ∀ i, i < s.length → t.getD i Ex.nil = (s.getD i Ex.nil).fixX day := fun i hi2 => by rw [← ht]; exact Ex.J8 day s i hi2
 rw [ht] at hq hfl
 refine ⟨fun hk => ?_, fun hk => ?_⟩
 all_goals
  first
  | (rw [if_pos (of_decide_eq_true hk), if_pos (of_decide_eq_true hk)] at hq
     obtain ⟨k', hk'⟩ : ∃ k' : Int, 2 = k' := ⟨_, rfl⟩
     obtain ⟨d', hd'⟩ : ∃ d' : Int, day = d' := ⟨_, rfl⟩)
  | (rw [if_neg (of_decide_eq_false hk), if_neg (of_decide_eq_false hk)] at hq
     obtain ⟨k', hk'⟩ : ∃ k' : Int, k = k' := ⟨_, rfl⟩
     obtain ⟨d', hd'⟩ : ∃ d' : Int, d = d' := ⟨_, rfl⟩)
  rw [hk', hd'] at hq
  refine zc.up [(5, Ex.exG t)] (SFx day 0) (HFx1 k r m d s k' d') (by simp [SFx, upKV, upA2, upA1, upA0]) (by simp [HFx1, upH, upB, upL1, upA1, upA0, Ex.exS, hk', hd']) (by kernel_rfl) (by kernel_rfl) ?_
  clear hk hk' hd'
  refine zc.loop (ι := {i : Nat // i ≤ s.length}) (fun i => SFx day i.1) (fun i => HFx k r m d s t k' d' i.1) (fun i => s.length - i.1) ⟨0, Nat.zero_le _⟩ 0 ?_ ?_ (by kernel_rfl)
  ·exact ⟨by simp [SFx], by simp [HFx, HFx1, vq, Ex.exS, za], by kernel_rfl, Nat.zero_le _⟩
  ·rintro ⟨i, hil⟩
   refine zc.run hmix (wZ ih) [1, 2, 4, 5, 6] 400 (T := .ite (decide ((↑i : Int) < s.length)) (.side ((0 : Int) ≤ i ∧ (↑i : Int) < s.length) (.ex (fun (x : Ex × Int) => eqL [AV.agg [AV.int .u8 (Ex.kind (List.getD s (Int.toNat (↑i : Int)) Ex.nil)), AV.str (Ex.rat (List.getD s (Int.toNat (↑i : Int)) Ex.nil)), AV.str (Ex.name (List.getD s (Int.toNat (↑i : Int)) Ex.nil)), AV.int .i64 (Ex.date (List.getD s (Int.toNat (↑i : Int)) Ex.nil)), AV.sl (List.length (Ex.sub (List.getD s (Int.toNat (↑i : Int)) Ex.nil))) 5 (Ex.deep (List.getD s (Int.toNat (↑i : Int)) Ex.nil))], AV.int .i64 day] [AV.agg [AV.int .u8 x.1.kind, AV.str x.1.rat, AV.str x.1.name, AV.int .i64 x.1.date, AV.sl x.1.sub.length 5 (Ex.exG x.1.sub)], AV.int .i64 x.2] ∧ Ex.size x.1 < n ∧ Ex.size x.1 < 1099511627776) fun n => .all (fun (x : Unit) => True) fun n_1 => .side (0 = 0 ∧ i ≤ i ∧ (i + 1) * 72 ≤ 140737488355328) (.side (inR .i64 ((↑i : Int) + (1 : Int))) (.leaf (.back 0 [(1, .int .i64 day), (2, .ptr 0 0), (4, .ptr 1 0), (5, .ptr 2 0), (6, .int .i64 ((↑i : Int) + (1 : Int)))] [.box [.int .u8 k, .str r, .str m, .int .i64 d, .sl s.length 5 (Ex.exG s)], .box [.int .u8 0, .str [], .str [], .int .i64 0, .nils], .box [.int .u8 k', .str r, .str m, .int .i64 d', .osl 3 5 0 (i + 1)], .arr (i + 1) 5 (appG i (Ex.exG t) (zg (zj 5 [.int .u8 (Ex.kind (Ex.fixX n.2 n.1)), .str (Ex.rat (Ex.fixX n.2 n.1)), .str (Ex.name (Ex.fixX n.2 n.1)), .int .i64 (Ex.date (Ex.fixX n.2 n.1)), .sl (List.length (Ex.sub (Ex.fixX n.2 n.1))) 5 (Ex.deep (Ex.fixX n.2 n.1))]) 0)), .arr 1 5 (zj 5 [.int .u8 (Ex.kind (Ex.fixX n.2 n.1)), .str (Ex.rat (Ex.fixX n.2 n.1)), .str (Ex.name (Ex.fixX n.2 n.1)), .int .i64 (Ex.date (Ex.fixX n.2 n.1)), .sl (List.length (Ex.sub (Ex.fixX n.2 n.1))) 5 (Ex.deep (Ex.fixX n.2 n.1))])]))))) (.leaf (.ret [.agg [.int .u8 k', .str r, .str m, .int .i64 d', .osl 3 5 0 i]] [.box [.int .u8 k, .str r, .str m, .int .i64 d, .sl s.length 5 (Ex.exG s)], .box [.int .u8 k', .str r, .str m, .int .i64 d', .osl 3 5 0 i], .box [.int .u8 k', .str r, .str m, .int .i64 d', .osl 3 5 0 i], .arr i 5 (Ex.exG t)]))) (by kernel_rfl) ?_
   simp only [Tree.holds, zd, inR, lo, hi, Int.toNat_natCast]
   refine ⟨fun hlt => ?_, fun hge => ?_⟩
   ·have hlt : i < s.length := by have := of_decide_eq_true hlt; omega
    have hg := Ex.zH hlt
    refine ⟨by omega, fun _ => ⟨(s.getD i Ex.nil, day), ⟨⟨⟨⟨rfl, rfl⟩, rfl, rfl, ⟨rfl, rfl⟩, ⟨rfl, rfl, Ex.qU _⟩, trivial⟩, ⟨rfl, rfl⟩, trivial⟩, by show (s.getD i Ex.nil).size < n; omega, by show (s.getD i Ex.nil).size < 2 ^ 40; omega⟩, ⟨(), trivial⟩, ?_⟩⟩
    intro _ _
    refine ⟨⟨trivial, Nat.le_refl _, by omega⟩, fun _ => ⟨by omega, fun _ => ?_⟩⟩
    rw [if_pos trivial]
    refine ⟨⟨i + 1, hlt⟩, by show s.length - (i + 1) < s.length - i; omega, by simp [SFx], ?_, by kernel_rfl, Nat.zero_le _⟩
    have := Yf (s := t) (i := i)
    rw [htg i hlt] at this
    exact ⟨⟨⟨rfl, rfl⟩, rfl, rfl, ⟨rfl, rfl⟩, ⟨rfl, rfl, za _ _ _⟩, trivial⟩, ⟨⟨rfl, rfl⟩, rfl, rfl, ⟨rfl, rfl⟩, by simp, trivial⟩, ⟨⟨rfl, rfl⟩, rfl, rfl, ⟨rfl, rfl⟩, ⟨rfl, rfl, rfl, rfl⟩, trivial⟩, ⟨rfl, rfl, this⟩, trivial⟩
   ·have hge : i = s.length := by have := of_decide_eq_false hge; omega
    subst hge
    rw [← hfl]
    exact U3 (x := .mk k' r m d' t) rfl rfl hq
def K7 : Ctr := ctrP false (fun p : Ex × Int => [p.1.exA, .int .i64 p.2]) (fun p => p.1.size < 2 ^ 40) (fun _ (_ : Unit) => True) (fun p _ => (exD (p.1.fixX p.2), []))
theorem zbe : zb Tryd.prog 12 K7 := wM (fun p => p.1.size) KN
end Go.Proofs.Tryd
end

/- The integers: addition of magnitudes. -/
section
set_option maxRecDepth 100000
open Go Go.Sx Go.Proofs Go.Nov
namespace Go.Proofs.Tryd
attribute [local simp] eqKV eqA eqA0 eqH eqB eqL eqL0
noncomputable def K142 : List Go.Sx.Item := [.code (Tryd.f142.body.getD .skip)]
def Ka : Ctr := ctr2 true (fun x y => (canon x).length < 100000 ∧ (canon y).length < 100000) (fun x y d => d = x + y) (fun _ _ d => (magS d, []))
def SPl (x y : Nat) (o : List Nat) (c i : Nat) : KV := [(1, magS y), (5, .osl 0 1 0 o.length), (6, .int .u32 (c : Int)), (21, magS x), (22, .int .i64 ((canon x).length : Int)), (23, .int .i64 (i : Int))]
structure IPl (x y : Nat) where
 o : List Nat
 c : Nat
 i : Nat
 len : o.length = i
 le : i ≤ (canon x).length
 dg : dig o
 c1 : c ≤ 1
 eq : val o + B ^ i * c = val ((canon x).take i) + val ((canon y).take i)
theorem zdj {x y o c i d c' : Nat} {l m : List Nat} (h : o + B ^ i * c = val (l.take i) + val (m.take i)) (he : d + B * c' = l.getD i 0 + m.getD i 0 + c) : o + B ^ i * d + B ^ (i + 1) * c' = val (l.take (i + 1)) + val (m.take (i + 1)) := by
 rw [zl, zl, Nat.pow_succ]
 have := congrArg (B ^ i * ·) he
 simp only [Nat.mul_add] at this
 rw [Nat.mul_assoc]
 omega
theorem RetR.zet {ctr : Ctr} {Q : AV × Heap → Prop} {h : Heap} {i m n : Nat} {k : IntKind} {l : List Nat} {G : Nat → Nat → AV} (hq : Q (natS k l, [])) (hb : h[i]? = some (.arr m 1 G)) (hn : n ≤ m) (hl : l.length = n) (hG : ∀ j, j < n → G j 0 = .int k ((l.getD j 0 : Nat) : Int)) : RetR ctr 0 Q [.osl i 1 0 n] h := by
 refine RetR.out0 hq (fun _ => ?_) ?_
 ·refine UR hb (by omega) fun j o hj ho => ?_
  have : o = 0 := by omega
  subst this
  simp only [zg, Nat.zero_add, hG j hj, zK]
 ·have e : exp2 h [] (resV [.osl i 1 0 n]) = exp0 h [] (.osl i 1 0 n) := rfl
  rw [e, J9 hb (by omega), zeo]
  simp only [eqA2, natS]
  refine ⟨hl.symm, rfl, fun j o hj ho => ?_⟩
  have : o = 0 := by omega
  subst this
  rw [hG j hj]; rfl
theorem JU {O : Nat → Prop} {w0 : World} {Q : AV × Heap → Prop} (x y : Nat) (hx : (canon x).length < 100000) (hlen : (canon y).length ≤ (canon x).length) (hq : Q (magS (x + y), [])) (kv : KV) (h : Heap) (hle : LeK 0 Tryd.f142.ntmps kv h (SPl x y [] 0 0) [.arr 0 1 (natG .u32 [])]) :
  zc Tryd.prog Tryd.f142 O 0 w0 [] (fun _ _ _ => False) (RetR Ka 0 Q) (.code (.loop (lps K142 0).1) :: (lps K142 0).2) (mk Tryd.f142.ntmps kv h) := by
 refine zc.loop (ι := IPl x y) (fun s => SPl x y s.o s.c s.i) (fun s => [.arr s.o.length 1 (natG .u32 s.o)]) (fun s => (canon x).length - s.i) ⟨[], 0, 0, rfl, Nat.zero_le _, by simp [dig], by omega, by simp [val]⟩ 0 hle ?_ (by kernel_rfl)
 rintro ⟨o, c, i, ho, hle, hd, hc, he⟩
 subst ho
 have hB : B = 1000000000 := rfl
 refine zc.run hmix xk [1, 5, 6, 21, 22, 23] 400 (T := .ite (decide ((↑o.length : Int) < (↑(canon x).length : Int))) (.side ((0 : Int) ≤ o.length ∧ (↑o.length : Int) < (↑(canon x).length : Int)) (.side (inR .u32 ((↑(List.getD (canon x) (Int.toNat (↑o.length : Int)) 0) : Int) + c)) (.ite (decide ((↑o.length : Int) < (↑(canon y).length : Int))) (.side ((0 : Int) ≤ o.length ∧ (↑o.length : Int) < (↑(canon y).length : Int)) (.side (inR .u32 ((↑(List.getD (canon x) (Int.toNat (↑o.length : Int)) 0) : Int) + c + (↑(List.getD (canon y) (Int.toNat (↑o.length : Int)) 0) : Int))) (.side ((1000000000 : Int) ≠ 0 ∧ inR .u32 (Int.tdiv ((↑(List.getD (canon x) (Int.toNat (↑o.length : Int)) 0) : Int) + c + (↑(List.getD (canon y) (Int.toNat (↑o.length : Int)) 0) : Int)) (1000000000 : Int))) (.side ((1000000000 : Int) ≠ 0) (.side (0 = 0 ∧ o.length ≤ o.length ∧ (o.length + 1) * 4 ≤ 140737488355328) (.side (inR .i64 ((↑o.length : Int) + (1 : Int))) (.leaf (.back 0 [(1, .sl (canon y).length 1 (natG .u32 (canon y))), (5, .osl 0 1 0 (o.length + 1)), (6, .int .u32 (Int.tdiv ((↑(List.getD (canon x) (Int.toNat (↑o.length : Int)) 0) : Int) + c + (↑(List.getD (canon y) (Int.toNat (↑o.length : Int)) 0) : Int)) (1000000000 : Int))), (21, .sl (canon x).length 1 (natG .u32 (canon x))), (22, .int .i64 (↑(canon x).length : Int)), (23, .int .i64 ((↑o.length : Int) + (1 : Int)))] [.arr (o.length + 1) 1 (appG o.length (natG .u32 o) (zg (zj 1 [.int .u32 (Int.tmod ((↑(List.getD (canon x) (Int.toNat (↑o.length : Int)) 0) : Int) + c + (↑(List.getD (canon y) (Int.toNat (↑o.length : Int)) 0) : Int)) (1000000000 : Int))]) 0)), .arr 1 1 (zj 1 [.int .u32 (Int.tmod ((↑(List.getD (canon x) (Int.toNat (↑o.length : Int)) 0) : Int) + c + (↑(List.getD (canon y) (Int.toNat (↑o.length : Int)) 0) : Int)) (1000000000 : Int))])])))))))) (.side ((1000000000 : Int) ≠ 0 ∧ inR .u32 (Int.tdiv ((↑(List.getD (canon x) (Int.toNat (↑o.length : Int)) 0) : Int) + c) (1000000000 : Int))) (.side ((1000000000 : Int) ≠ 0) (.side (0 = 0 ∧ o.length ≤ o.length ∧ (o.length + 1) * 4 ≤ 140737488355328) (.side (inR .i64 ((↑o.length : Int) + (1 : Int))) (.leaf (.back 0 [(1, .sl (canon y).length 1 (natG .u32 (canon y))), (5, .osl 0 1 0 (o.length + 1)), (6, .int .u32 (Int.tdiv ((↑(List.getD (canon x) (Int.toNat (↑o.length : Int)) 0) : Int) + c) (1000000000 : Int))), (21, .sl (canon x).length 1 (natG .u32 (canon x))), (22, .int .i64 (↑(canon x).length : Int)), (23, .int .i64 ((↑o.length : Int) + (1 : Int)))] [.arr (o.length + 1) 1 (appG o.length (natG .u32 o) (zg (zj 1 [.int .u32 (Int.tmod ((↑(List.getD (canon x) (Int.toNat (↑o.length : Int)) 0) : Int) + c) (1000000000 : Int))]) 0)), .arr 1 1 (zj 1 [.int .u32 (Int.tmod ((↑(List.getD (canon x) (Int.toNat (↑o.length : Int)) 0) : Int) + c) (1000000000 : Int))])]))))))))) (.side (0 = 0 ∧ o.length ≤ o.length ∧ (o.length + 1) * 4 ≤ 140737488355328) (.ex (fun (u : List Nat) => u.length = o.length + 1 ∧ 0 + (o.length + 1) ≤ o.length + 1 ∧ o.length + 1 < 4611686018427387904 ∧ eqG (o.length + 1) 1 (appG o.length (natG .u32 o) (zg (zj 1 [AV.int .u32 c]) 0)) (natG .u32 u) ∧ dig (List.take (o.length + 1) (List.drop 0 u))) fun n => .all (fun (x : Nat) => x = val (List.take (o.length + 1) (List.drop 0 n))) fun n => .leaf (.ret [.osl 0 1 0 (canon n).length] [.arr (o.length + 1) 1 (appG o.length (natG .u32 o) (zg (zj 1 [.int .u32 c]) 0)), .arr 1 1 (zj 1 [.int .u32 c])])))) (by kernel_rfl) ?_
 simp only [Tree.holds, zd, inR, lo, hi, Int.toNat_natCast, kp]
 have ha := zC (zf x) o.length
 have hb := zC (zf y) o.length
 have hnext : ∀ d c' : Nat, d < B → c' ≤ 1 → o.length < (canon x).length → d + B * c' = (canon x).getD o.length 0 + (canon y).getD o.length 0 + c →
   ∃ s : IPl x y, s.o = o ++ [d] ∧ s.c = c' ∧ s.i = o.length + 1 := fun d c' h1 h2 h3 h4 =>
  ⟨⟨o ++ [d], c', o.length + 1, by simp, h3, qJ.2 ⟨hd, by simp [dig, h1]⟩, h2, by rw [uZ]; exact zdj (x := x) (y := y) he h4⟩, rfl, rfl, rfl⟩
 have hdiv : ∀ v : Nat, (v : Int).tdiv 1000000000 = ((v / B : Nat) : Int) ∧ (v : Int).tmod 1000000000 = ((v % B : Nat) : Int) := fun v => ⟨rfl, rfl⟩
 have hq2 : ∀ v : Nat, v < 2 * B → v / B ≤ 1 ∧ v % B < B ∧ v % B + B * (v / B) = v := fun v hv => ⟨by have := Nat.div_lt_of_lt_mul (show v < B * 2 by omega); omega, Nat.mod_lt _ (by omega), Nat.mod_add_div _ _⟩
 refine ⟨fun hlt => ?_, fun hge => ?_⟩
 ·have hlt : o.length < (canon x).length := by have := of_decide_eq_true hlt; omega
  refine ⟨by omega, fun _ => ⟨by omega, fun _ => ⟨fun hb2 => ?_, fun hb2 => ?_⟩⟩⟩
  ·have hb2 : o.length < (canon y).length := by have := of_decide_eq_true hb2; omega
   refine ⟨by omega, fun _ => ⟨by omega, fun _ => ?_⟩⟩
   obtain ⟨v, hv⟩ : ∃ v, (canon x).getD o.length 0 + c + (canon y).getD o.length 0 = v := ⟨_, rfl⟩
   have ev : (((canon x).getD o.length 0 : Nat) : Int) + (c : Int) + (((canon y).getD o.length 0 : Nat) : Int) = (v : Int) := by omega
   rw [ev, (hdiv v).1, (hdiv v).2]
   obtain ⟨g1, g2, g3⟩ := hq2 v (by omega)
   generalize v / B = q at g1 g3 ⊢
   generalize v % B = r at g2 g3 ⊢
   refine ⟨⟨by decide, by omega, by omega⟩, fun _ => ⟨by decide, fun _ => ⟨⟨trivial, Nat.le_refl _, by omega⟩, fun _ => ⟨by omega, fun _ => ?_⟩⟩⟩⟩
   obtain ⟨s, h1, h2, h3⟩ := hnext r q g2 g1 hlt (by omega)
   rw [if_pos trivial]
   exact ⟨s, by show _ - s.i < _; omega, by simp [SPl, h1, h2, h3, magS, natS, za], by rw [h1]; exact wj rfl, by kernel_rfl, Nat.zero_le _⟩
  ·have hb2 : (canon y).length ≤ o.length := by have := of_decide_eq_false hb2; omega
   have hb0 : (canon y).getD o.length 0 = 0 := by simp [List.getD, List.getElem?_eq_none hb2]
   obtain ⟨v, hv⟩ : ∃ v, (canon x).getD o.length 0 + c = v := ⟨_, rfl⟩
   have ev : (((canon x).getD o.length 0 : Nat) : Int) + (c : Int) = (v : Int) := by omega
   rw [ev, (hdiv v).1, (hdiv v).2]
   obtain ⟨g1, g2, g3⟩ := hq2 v (by omega)
   generalize v / B = q at g1 g3 ⊢
   generalize v % B = r at g2 g3 ⊢
   refine ⟨⟨by decide, by omega, by omega⟩, fun _ => ⟨by decide, fun _ => ⟨⟨trivial, Nat.le_refl _, by omega⟩, fun _ => ⟨by omega, fun _ => ?_⟩⟩⟩⟩
   obtain ⟨s, h1, h2, h3⟩ := hnext r q g2 g1 hlt (by omega)
   rw [if_pos trivial]
   exact ⟨s, by show _ - s.i < _; omega, by simp [SPl, h1, h2, h3, magS, natS, za], by rw [h1]; exact wj rfl, by kernel_rfl, Nat.zero_le _⟩
 ·have hge : o.length = (canon x).length := by have := of_decide_eq_false hge; omega
  have hv : val (o ++ [c]) = x + y := by
   rw [uZ]
   rw [hge, List.take_length, List.take_of_length_le hlen, zh, zh] at he
   rw [hge]; exact he
  have hdo : dig (o ++ [c]) := qJ.2 ⟨hd, by simp [dig]; omega⟩
  have hpush : eqG (o.length + 1) 1 (appG o.length (natG .u32 o) (zg (zj 1 [.int .u32 (c : Int)]) 0)) (natG .u32 (o ++ [c])) := by
   have := xt (k := .u32) (l := o) (v := (c : Int)) (by omega)
   simpa using this
  have hall : List.take (o.length + 1) (List.drop 0 (o ++ [c])) = o ++ [c] := by rw [List.drop_zero]; exact List.take_of_length_le (by simp)
  refine ⟨⟨trivial, Nat.le_refl _, by omega⟩, fun _ => ⟨o ++ [c], ⟨by simp, by omega, by omega, hpush, by rw [hall]; exact hdo⟩, ⟨_, rfl⟩, ?_⟩⟩
  intro X hX
  have hX : X = x + y := by rw [hX, hall, hv]
  subst hX
  have htr : qp (o ++ [c]) = canon (x + y) := by rw [zF hdo, hv]
  have htl : (canon (x + y)).length = tlen (o ++ [c]) := by rw [← htr, qp, List.length_take]; have := zT (o ++ [c]); omega
  rw [htl]
  have hle2 := zT (o ++ [c])
  have hln : (o ++ [c]).length = o.length + 1 := by simp
  refine RetR.zet (l := canon (x + y)) (k := .u32) hq rfl (by omega) htl fun j hj => ?_
  have := hpush j 0 (by omega) (by omega)
  rw [this, ← htr]
  simp only [natG, qp]
  rw [VY hj]
theorem Ku : zb Tryd.prog 142 Ka := by
 refine xH (fn := Tryd.f142) (c := Tryd.f142.body.getD .skip) rfl rfl rfl fun x y hp O w0 Q hq => ?_
 replace hq := hq _ rfl
 obtain ⟨hx, hy⟩ := hp
 refine zc.run hmix xk [1, 5, 6, 21, 22, 23] 400 (T := .ite (decide ((↑(canon x).length : Int) < (↑(canon y).length : Int))) (.side (inR .i64 ((↑(canon y).length : Int) + (1 : Int))) (.side ((0 : Int) ≤ 0 ∧ (0 : Int) ≤ (↑(canon y).length : Int) + (1 : Int) ∧ inR .i64 ((↑(canon y).length : Int) + (1 : Int)) ∧ Int.toNat ((↑(canon y).length : Int) + (1 : Int)) * 4 ≤ 140737488355328) (.leaf (.loop (Prod.fst (lps K142 0)) (Prod.snd (lps K142 0)) [(1, .sl (canon x).length 1 (natG .u32 (canon x))), (5, .osl 0 1 0 0), (6, .int .u32 0), (21, .sl (canon y).length 1 (natG .u32 (canon y))), (22, .int .i64 (↑(canon y).length : Int)), (23, .int .i64 0)] [.arr 0 1 (ke [.int .u32 0])])))) (.side (inR .i64 ((↑(canon x).length : Int) + (1 : Int))) (.side ((0 : Int) ≤ 0 ∧ (0 : Int) ≤ (↑(canon x).length : Int) + (1 : Int) ∧ inR .i64 ((↑(canon x).length : Int) + (1 : Int)) ∧ Int.toNat ((↑(canon x).length : Int) + (1 : Int)) * 4 ≤ 140737488355328) (.leaf (.loop (Prod.fst (lps K142 0)) (Prod.snd (lps K142 0)) [(1, .sl (canon y).length 1 (natG .u32 (canon y))), (5, .osl 0 1 0 0), (6, .int .u32 0), (21, .sl (canon x).length 1 (natG .u32 (canon x))), (22, .int .i64 (↑(canon x).length : Int)), (23, .int .i64 0)] [.arr 0 1 (ke [.int .u32 0])]))))) (by kernel_rfl) ?_
 simp only [Tree.holds, zd, inR, lo, hi]
 refine ⟨fun h => ?_, fun h => ?_⟩
 ·have h : (canon x).length < (canon y).length := by have := of_decide_eq_true h; omega
  refine ⟨by omega, fun _ => ⟨⟨by omega, by omega, by omega, by omega⟩, fun _ => ?_⟩⟩
  rw [Nat.add_comm] at hq
  exact JU y x hy (by omega) hq _ _ ⟨by simp [SPl, magS, natS, za], by simp [eqG], by kernel_rfl, Nat.zero_le _⟩
 ·have h : (canon y).length ≤ (canon x).length := by have := of_decide_eq_false h; omega
  refine ⟨by omega, fun _ => ⟨⟨by omega, by omega, by omega, by omega⟩, fun _ => ?_⟩⟩
  exact JU x y hx h hq _ _ ⟨by simp [SPl, magS, natS, za], by simp [eqG], by kernel_rfl, Nat.zero_le _⟩
end Go.Proofs.Tryd
end

/- The integers: sums, products, comparisons. -/
section
set_option maxRecDepth 100000
open Go Go.Sx Go.Proofs Go.Nov
namespace Go.Proofs.Tryd
attribute [local simp] eqKV eqA eqA0 eqH eqB eqL eqL0
def zcx : Ctr := ctrP false (fun p : Bool × Nat => [.bool p.1, magS p.2]) (fun _ => True) (fun p r => r = (p.1 && decide (0 < p.2), p.2)) (fun _ (r : Bool × Nat) => (numV r.1 r.2, []))
theorem yT {x : Nat} : decide (0 < ((canon x).length : Int)) = decide (0 < x) := by
 by_cases h : x = 0
 ·subst h; simp [canon]
 ·have h1 : 0 < x := Nat.pos_of_ne_zero h
  have h2 : (canon x).length ≠ 0 := fun h2 => h (kB.1 h2)
  rw [decide_eq_true (by omega), decide_eq_true h1]
theorem RetR.numV {ctr : Ctr} {Q : AV × Heap → Prop} {h : Heap} {b : Bool} {x : Nat} (hf : ctr.fresh = false) (hq : Q (numV b x, [])) : RetR ctr 0 Q [.agg [.bool b, magS x]] h := by
 refine RetR.out0 hq (fun h => by rw [hf] at h; cases h) ?_
 simp [resV, exp2, exp1, exp0, ren0, frz1, eqA2, eqL1, eqA, eqL0, eqA0, Tryd.numV, magS, natS, za]
theorem zb1 : zb Tryd.prog 141 zcx := by
 refine ze (fn := Tryd.f141) (c := Tryd.f141.body.getD .skip) rfl rfl rfl fun p hp O w0 Q hq => ?_
 obtain ⟨b, x⟩ := p
 replace hq := hq _ rfl
 refine zc.run hmix zD [] 400 (T := .leaf (.ret [.agg [.bool (bif b then decide ((0 : Int) < (↑(canon x).length : Int)) else false), .sl (canon x).length 1 (natG .u32 (canon x))]] [.box [.bool (bif b then decide ((0 : Int) < (↑(canon x).length : Int)) else false), .sl (canon x).length 1 (natG .u32 (canon x))]])) (by kernel_rfl) ?_
 simp only [Tree.holds, zd]
 rw [yT]
 have e : (bif b then decide (0 < x) else false) = (b && decide (0 < x)) := by cases b <;> rfl
 rw [e]
 exact RetR.numV rfl hq
def sumC : Ctr := ctrP false (fun p : (Bool × Nat) × (Bool × Nat) => [numV p.1.1 p.1.2, numV p.2.1 p.2.2]) (fun p => (canon p.1.2).length < 100000 ∧ (canon p.2.2).length < 100000)
 (fun p r => r = ((sumS p.1.1 p.1.2 p.2.1 p.2.2).1 && decide (0 < (sumS p.1.1 p.1.2 p.2.1 p.2.2).2), (sumS p.1.1 p.1.2 p.2.1 p.2.2).2)) (fun _ (r : Bool × Nat) => (numV r.1 r.2, []))
noncomputable def GSu : Nat → Option Ctr := fun f => if f = 141 then some (zcx) else if f = 142 then some (Ka) else if f = 85 then some (xA) else if f = 90 then some (QQ) else none
theorem zee : ∀ g c, GSu g = some c → zb Tryd.prog g c := okIf zb1 (okIf Ku (okIf kV (okIf uc (zn))))
theorem zed : zb Tryd.prog 139 sumC := by
 refine ze (fn := Tryd.f139) (c := Tryd.f139.body.getD .skip) rfl rfl rfl fun p hp O w0 Q hq => ?_
 obtain ⟨⟨m, x⟩, ⟨n, y⟩⟩ := p
 obtain ⟨h1, h2⟩ := hp
 replace hq := hq _ rfl
 simp only at h1 h2 hq
 refine zc.run hmix zee [] 400 (T := .ite (m == n) (.ex (fun (x_1 : Nat × Nat) => eqL [AV.sl (canon x).length 1 (natG .u32 (canon x)), AV.sl (canon y).length 1 (natG .u32 (canon y))] [AV.sl (canon x_1.1).length 1 (natG .u32 (canon x_1.1)), AV.sl (canon x_1.2).length 1 (natG .u32 (canon x_1.2))] ∧ List.length (canon x_1.1) < 100000 ∧ List.length (canon x_1.2) < 100000) fun n_1 => .all (fun (d : Nat) => d = n_1.1 + n_1.2) fun n_2 => .ex (fun (x : Bool × Nat) => eqL [AV.bool m, AV.sl (canon n_2).length 1 (natG .u32 (canon n_2))] [AV.bool x.1, AV.sl (canon x.2).length 1 (natG .u32 (canon x.2))] ∧ True) fun n_3 => .all (fun (r : Bool × Nat) => r = (n_3.1 && decide (0 < n_3.2), n_3.2)) fun n_4 => .leaf (.ret [.agg [.bool n_4.1, .sl (canon n_4.2).length 1 (natG .u32 (canon n_4.2))]] [.box [.bool m, .sl (canon x).length 1 (natG .u32 (canon x))], .box [.bool n, .sl (canon y).length 1 (natG .u32 (canon y))], .box [.bool n_4.1, .sl (canon n_4.2).length 1 (natG .u32 (canon n_4.2))]])) (.ex (fun (x_1 : Nat × Nat) => eqL [AV.sl (canon x).length 1 (natG .u32 (canon x)), AV.sl (canon y).length 1 (natG .u32 (canon y))] [AV.sl (canon x_1.1).length 1 (natG .u32 (canon x_1.1)), AV.sl (canon x_1.2).length 1 (natG .u32 (canon x_1.2))] ∧ fits x_1.1 ∧ fits x_1.2) fun n_1 => .all (fun (r : Int) => r = cmp3 n_1.1 n_1.2) fun n_2 => .ite (decide ((0 : Int) ≤ n_2)) (.ex (fun (x_1 : Nat × Nat) => eqL [AV.sl (canon x).length 1 (natG .u32 (canon x)), AV.sl (canon y).length 1 (natG .u32 (canon y))] [AV.sl (canon x_1.1).length 1 (natG .u32 (canon x_1.1)), AV.sl (canon x_1.2).length 1 (natG .u32 (canon x_1.2))] ∧ fits x_1.1 ∧ x_1.2 ≤ x_1.1) fun n_3 => .all (fun (d : Nat) => d = n_3.1 - n_3.2) fun n_4 => .ex (fun (x : Bool × Nat) => eqL [AV.bool m, AV.sl (canon n_4).length 1 (natG .u32 (canon n_4))] [AV.bool x.1, AV.sl (canon x.2).length 1 (natG .u32 (canon x.2))] ∧ True) fun n_5 => .all (fun (r : Bool × Nat) => r = (n_5.1 && decide (0 < n_5.2), n_5.2)) fun n_6 => .leaf (.ret [.agg [.bool n_6.1, .sl (canon n_6.2).length 1 (natG .u32 (canon n_6.2))]] [.box [.bool m, .sl (canon x).length 1 (natG .u32 (canon x))], .box [.bool n, .sl (canon y).length 1 (natG .u32 (canon y))], .box [.bool n_6.1, .sl (canon n_6.2).length 1 (natG .u32 (canon n_6.2))]])) (.ex (fun (x_1 : Nat × Nat) => eqL [AV.sl (canon y).length 1 (natG .u32 (canon y)), AV.sl (canon x).length 1 (natG .u32 (canon x))] [AV.sl (canon x_1.1).length 1 (natG .u32 (canon x_1.1)), AV.sl (canon x_1.2).length 1 (natG .u32 (canon x_1.2))] ∧ fits x_1.1 ∧ x_1.2 ≤ x_1.1) fun n_3 => .all (fun (d : Nat) => d = n_3.1 - n_3.2) fun n_4 => .ex (fun (x : Bool × Nat) => eqL [AV.bool n, AV.sl (canon n_4).length 1 (natG .u32 (canon n_4))] [AV.bool x.1, AV.sl (canon x.2).length 1 (natG .u32 (canon x.2))] ∧ True) fun n_5 => .all (fun (r : Bool × Nat) => r = (n_5.1 && decide (0 < n_5.2), n_5.2)) fun n_6 => .leaf (.ret [.agg [.bool n_6.1, .sl (canon n_6.2).length 1 (natG .u32 (canon n_6.2))]] [.box [.bool m, .sl (canon x).length 1 (natG .u32 (canon x))], .box [.bool n, .sl (canon y).length 1 (natG .u32 (canon y))], .box [.bool n_6.1, .sl (canon n_6.2).length 1 (natG .u32 (canon n_6.2))]])))) (by kernel_rfl) ?_
 simp only [Tree.holds, zd]
 have eL : ∀ a b : Nat, eqL [AV.sl (canon a).length 1 (natG .u32 (canon a)), AV.sl (canon b).length 1 (natG .u32 (canon b))] [AV.sl (canon a).length 1 (natG .u32 (canon a)), AV.sl (canon b).length 1 (natG .u32 (canon b))] := fun a b => ⟨⟨rfl, rfl, za _ _ _⟩, ⟨rfl, rfl, za _ _ _⟩, trivial⟩
 have eK : ∀ (b : Bool) (a : Nat), eqL [AV.bool b, AV.sl (canon a).length 1 (natG .u32 (canon a))] [AV.bool b, AV.sl (canon a).length 1 (natG .u32 (canon a))] := fun b a => ⟨rfl, ⟨rfl, rfl, za _ _ _⟩, trivial⟩
 have hcm : ∀ v, v = cmp3 x y → (0 ≤ v ↔ y ≤ x) := by
  rintro v rfl
  unfold cmp3
  split
  ·exact ⟨fun h => by omega, fun h => by omega⟩
  ·split
   ·exact ⟨fun h => by omega, fun h => by omega⟩
   ·exact ⟨fun h => by omega, fun h => by omega⟩
 refine ⟨fun h => ?_, fun h => ⟨(x, y), ⟨eL x y, by show (canon x).length < _; omega, by show (canon y).length < _; omega⟩, ⟨_, rfl⟩, ?_⟩⟩
 ·have h : m = n := by simpa using h
  refine ⟨(x, y), ⟨eL x y, h1, h2⟩, ⟨_, rfl⟩, ?_⟩
  rintro _ rfl
  refine ⟨(m, x + y), ⟨eK m _, trivial⟩, ⟨_, rfl⟩, ?_⟩
  rintro _ rfl
  have e : sumS m x n y = (m, x + y) := if_pos h
  rw [e] at hq
  exact RetR.numV rfl hq
 ·have h : ¬ m = n := by simpa using h
  intro v hv
  have hv := hcm v hv
  refine ⟨fun g => ?_, fun g => ?_⟩
  ·have g : y ≤ x := hv.1 (of_decide_eq_true g)
   refine ⟨(x, y), ⟨eL x y, by show (canon x).length < _; omega, g⟩, ⟨_, rfl⟩, ?_⟩
   rintro _ rfl
   refine ⟨(m, x - y), ⟨eK m _, trivial⟩, ⟨_, rfl⟩, ?_⟩
   rintro _ rfl
   have e : sumS m x n y = (m, x - y) := by rw [sumS, if_neg h, if_pos g]
   rw [e] at hq
   exact RetR.numV rfl hq
  ·have g : ¬ y ≤ x := fun h3 => of_decide_eq_false g (hv.2 h3)
   refine ⟨(y, x), ⟨eL y x, by show (canon y).length < _; omega, by show x ≤ y; omega⟩, ⟨_, rfl⟩, ?_⟩
   rintro _ rfl
   refine ⟨(n, y - x), ⟨eK n _, trivial⟩, ⟨_, rfl⟩, ?_⟩
   rintro _ rfl
   have e : sumS m x n y = (n, y - x) := by rw [sumS, if_neg h, if_neg g]
   rw [e] at hq
   exact RetR.numV rfl hq
theorem zJ {x n : Nat} (h : x < B ^ n) (hn : n < 100000) : (canon x).length < 100000 := by have := zr h; omega
theorem qm {s : List UInt8} (h : errI s = 0) : numI s < B ^ 112 := jo.2 (kT h)
theorem VT {x y : Nat} (hx : x < B ^ 112) (hy : y < B ^ 112) : x + y < B ^ 113 ∧ x * y < B ^ 224 := by
 constructor
 ·have : B ^ 113 = B ^ 112 * B := Nat.pow_succ B 112
  have hB : B = 1000000000 := rfl
  generalize B ^ 112 = p at *
  rw [this, hB]; omega
 ·have : B ^ 224 = B ^ 112 * B ^ 112 := by rw [← Nat.pow_add]
  rw [this]
  exact Nat.mul_lt_mul_of_lt_of_lt hx hy
noncomputable def GAd : Nat → Option Ctr := fun f => if f = 72 then some (yz) else if f = 139 then some (sumC) else if f = 74 then some (yL) else if f = 88 then some (V7) else if f = 85 then some (xA) else none
theorem QH : ∀ g c, GAd g = some c → zb Tryd.prog g c := okIf QP (okIf zed (okIf u9 (okIf JQ (okIf kV (zn)))))
def addC : Ctr := ctrP true (fun p : List UInt8 × List UInt8 => [.str p.1, .str p.2]) (fun p => p.1.length < 2 ^ 62 ∧ p.2.length < 2 ^ 62) (fun p r => r = addI p.1 p.2) (fun _ r => (.tup [.str r.1, .int .i64 r.2], []))
def subC : Ctr := ctrP true (fun p : List UInt8 × List UInt8 => [.str p.1, .str p.2]) (fun p => p.1.length < 2 ^ 62 ∧ p.2.length < 2 ^ 62) (fun p r => r = subI p.1 p.2) (fun _ r => (.tup [.str r.1, .int .i64 r.2], []))
def mulC : Ctr := ctrP true (fun p : List UInt8 × List UInt8 => [.str p.1, .str p.2]) (fun p => p.1.length < 2 ^ 62 ∧ p.2.length < 2 ^ 62) (fun p r => r = mulI p.1 p.2) (fun _ r => (.tup [.str r.1, .int .i64 r.2], []))
def zcb : Ctr := ctrP true (fun p : List UInt8 × List UInt8 => [.str p.1, .str p.2]) (fun p => p.1.length < 2 ^ 62 ∧ p.2.length < 2 ^ 62) (fun p r => r = ZL p.1 p.2) (fun _ r => (.tup [.int .i64 r.1, .int .i64 r.2], []))
theorem zdf : zb Tryd.prog 136 addC := by
 refine ze (fn := Tryd.f136) (c := Tryd.f136.body.getD .skip) rfl rfl rfl fun p hp O w0 Q hq => ?_
 obtain ⟨s, t⟩ := p
 obtain ⟨hs, ht⟩ := hp
 replace hq := hq _ rfl
 simp only at hs ht hq
 refine zc.run hmix QH [] 400 (T := .ex (fun (x : List UInt8 × List UInt8) => eqL [AV.str s, AV.str t] [AV.str x.1, AV.str x.2] ∧ x.1.length < 4611686018427387904 ∧ x.2.length < 4611686018427387904) fun n => .all (fun (r : Int × (Bool × Nat) × Bool × Nat) => r = if zp n.1 n.2 = 0 then ((0 : Int), (negI n.1, numI n.1), negI n.2, numI n.2) else (zp n.1 n.2, (false, 0), false, 0)) fun n => .ite (!decide (n.1 = 0)) (.leaf (.ret [.str (Array.toList #[]), .int .i64 n.1] [.box [.bool (Prod.fst (n.2.1)), .sl (List.length (canon (Prod.snd (n.2.1)))) 1 (natG .u32 (canon (Prod.snd (n.2.1))))], .box [.bool (Prod.fst (n.2.2)), .sl (List.length (canon (Prod.snd (n.2.2)))) 1 (natG .u32 (canon (Prod.snd (n.2.2))))]])) (.ex (fun (x : (Bool × Nat) × Bool × Nat) => eqL [AV.agg [AV.bool (Prod.fst (n.2.1)), AV.sl (List.length (canon (Prod.snd (n.2.1)))) 1 (natG .u32 (canon (Prod.snd (n.2.1))))], AV.agg [AV.bool (Prod.fst (n.2.2)), AV.sl (List.length (canon (Prod.snd (n.2.2)))) 1 (natG .u32 (canon (Prod.snd (n.2.2))))]] [AV.agg [AV.bool (x.1.1), AV.sl (canon x.1.2).length 1 (natG .u32 (canon x.1.2))], AV.agg [AV.bool (x.2.1), AV.sl (List.length (canon (x.2.2))) 1 (natG .u32 (canon (x.2.2)))]] ∧ List.length (canon x.1.2) < 100000 ∧ List.length (canon (x.2.2)) < 100000) fun n_1 => .all (fun (r : Bool × Nat) => r = (Prod.fst (sumS (n_1.1.1) n_1.1.2 (n_1.2.1) (n_1.2.2)) && decide (0 < Prod.snd (sumS (n_1.1.1) n_1.1.2 (n_1.2.1) (n_1.2.2))), Prod.snd (sumS (n_1.1.1) n_1.1.2 (n_1.2.1) (n_1.2.2)))) fun n_2 => .ex (fun (x : Bool × Nat) => eqL [AV.agg [AV.bool n_2.1, AV.sl (canon n_2.2).length 1 (natG .u32 (canon n_2.2))]] [AV.agg [AV.bool x.1, AV.sl (canon x.2).length 1 (natG .u32 (canon x.2))]] ∧ List.length (canon x.2) < 1000000) fun n_3 => .all (fun (r : List UInt8 × Int) => r = wr n_3.1 n_3.2) fun n_4 => .leaf (.ret [.str n_4.1, .int .i64 n_4.2] [.box [.bool (Prod.fst (n.2.1)), .sl (List.length (canon (Prod.snd (n.2.1)))) 1 (natG .u32 (canon (Prod.snd (n.2.1))))], .box [.bool (Prod.fst (n.2.2)), .sl (List.length (canon (Prod.snd (n.2.2)))) 1 (natG .u32 (canon (Prod.snd (n.2.2))))]]))) (by kernel_rfl) ?_
 simp only [Tree.holds, zd]
 refine ⟨(s, t), ⟨by simp, by omega, by omega⟩, ⟨_, rfl⟩, ?_⟩
 rintro _ rfl
 simp only
 by_cases he : zp s t = 0
 ·obtain ⟨e1, e2⟩ := zk.1 he
  obtain ⟨b1, b2⟩ := VT (qm e1) (qm e2)
  have c1 := zJ (qm e1) (by decide)
  have c2 := zJ (qm e2) (by decide)
  simp only [if_pos he]
  refine ⟨fun h => (by simp at h), fun _ => ?_⟩
  refine ⟨((negI s, numI s), (negI t, numI t)), ⟨⟨⟨rfl, ⟨rfl, rfl, za _ _ _⟩, trivial⟩, ⟨rfl, ⟨rfl, rfl, za _ _ _⟩, trivial⟩, trivial⟩, c1, c2⟩, ⟨_, rfl⟩, ?_⟩
  rintro _ rfl
  refine ⟨((sumS (negI s) (numI s) (negI t) (numI t)).1 && decide (0 < (sumS (negI s) (numI s) (negI t) (numI t)).2), (sumS (negI s) (numI s) (negI t) (numI t)).2), ⟨⟨⟨rfl, ⟨rfl, rfl, za _ _ _⟩, trivial⟩, trivial⟩, ?_⟩, ⟨_, rfl⟩, ?_⟩
  ·have := zJ (Nat.lt_of_le_of_lt (Kj (negI s) (numI s) (negI t) (numI t)) b1) (by decide)
   show (canon (sumS (negI s) (numI s) (negI t) (numI t)).2).length < 1000000
   omega
  rintro _ rfl
  rw [Ks]
  have e : addI s t = wr (sumS (negI s) (numI s) (negI t) (numI t)).1 (sumS (negI s) (numI s) (negI t) (numI t)).2 := if_pos he
  rw [e] at hq
  exact RetR.scal hq rfl (by simp [resV])
 ·simp only [if_neg he]
  refine ⟨fun _ => ?_, fun h => (by simp [he] at h)⟩
  have e : addI s t = ([], zp s t) := if_neg he
  rw [e] at hq
  exact RetR.scal hq rfl (by simp [resV])
theorem zdu : zb Tryd.prog 138 subC := by
 refine ze (fn := Tryd.f138) (c := Tryd.f138.body.getD .skip) rfl rfl rfl fun p hp O w0 Q hq => ?_
 obtain ⟨s, t⟩ := p
 obtain ⟨hs, ht⟩ := hp
 replace hq := hq _ rfl
 simp only at hs ht hq
 refine zc.run hmix QH [] 400 (T := .ex (fun (x : List UInt8 × List UInt8) => eqL [AV.str s, AV.str t] [AV.str x.1, AV.str x.2] ∧ x.1.length < 4611686018427387904 ∧ x.2.length < 4611686018427387904) fun n => .all (fun (r : Int × (Bool × Nat) × Bool × Nat) => r = if zp n.1 n.2 = 0 then ((0 : Int), (negI n.1, numI n.1), negI n.2, numI n.2) else (zp n.1 n.2, (false, 0), false, 0)) fun n => .ite (!decide (n.1 = 0)) (.leaf (.ret [.str (Array.toList #[]), .int .i64 n.1] [.box [.bool (Prod.fst (n.2.1)), .sl (List.length (canon (Prod.snd (n.2.1)))) 1 (natG .u32 (canon (Prod.snd (n.2.1))))], .box [.bool (Prod.fst (n.2.2)), .sl (List.length (canon (Prod.snd (n.2.2)))) 1 (natG .u32 (canon (Prod.snd (n.2.2))))]])) (.ex (fun (x : (Bool × Nat) × Bool × Nat) => eqL [AV.agg [AV.bool (Prod.fst (n.2.1)), AV.sl (List.length (canon (Prod.snd (n.2.1)))) 1 (natG .u32 (canon (Prod.snd (n.2.1))))], AV.agg [AV.bool (bif !Prod.fst (n.2.2) then decide ((0 : Int) < (↑(List.length (canon (Prod.snd (n.2.2)))) : Int)) else false), AV.sl (List.length (canon (Prod.snd (n.2.2)))) 1 (natG .u32 (canon (Prod.snd (n.2.2))))]] [AV.agg [AV.bool (x.1.1), AV.sl (canon x.1.2).length 1 (natG .u32 (canon x.1.2))], AV.agg [AV.bool (x.2.1), AV.sl (List.length (canon (x.2.2))) 1 (natG .u32 (canon (x.2.2)))]] ∧ List.length (canon x.1.2) < 100000 ∧ List.length (canon (x.2.2)) < 100000) fun n_1 => .all (fun (r : Bool × Nat) => r = (Prod.fst (sumS (n_1.1.1) n_1.1.2 (n_1.2.1) (n_1.2.2)) && decide (0 < Prod.snd (sumS (n_1.1.1) n_1.1.2 (n_1.2.1) (n_1.2.2))), Prod.snd (sumS (n_1.1.1) n_1.1.2 (n_1.2.1) (n_1.2.2)))) fun n_2 => .ex (fun (x : Bool × Nat) => eqL [AV.agg [AV.bool n_2.1, AV.sl (canon n_2.2).length 1 (natG .u32 (canon n_2.2))]] [AV.agg [AV.bool x.1, AV.sl (canon x.2).length 1 (natG .u32 (canon x.2))]] ∧ List.length (canon x.2) < 1000000) fun n_3 => .all (fun (r : List UInt8 × Int) => r = wr n_3.1 n_3.2) fun n_4 => .leaf (.ret [.str n_4.1, .int .i64 n_4.2] [.box [.bool (Prod.fst (n.2.1)), .sl (List.length (canon (Prod.snd (n.2.1)))) 1 (natG .u32 (canon (Prod.snd (n.2.1))))], .box [.bool (bif !Prod.fst (n.2.2) then decide ((0 : Int) < (↑(List.length (canon (Prod.snd (n.2.2)))) : Int)) else false), .sl (List.length (canon (Prod.snd (n.2.2)))) 1 (natG .u32 (canon (Prod.snd (n.2.2))))]]))) (by kernel_rfl) ?_
 simp only [Tree.holds, zd]
 refine ⟨(s, t), ⟨by simp, by omega, by omega⟩, ⟨_, rfl⟩, ?_⟩
 rintro _ rfl
 simp only
 by_cases he : zp s t = 0
 ·obtain ⟨e1, e2⟩ := zk.1 he
  obtain ⟨b1, b2⟩ := VT (qm e1) (qm e2)
  have c1 := zJ (qm e1) (by decide)
  have c2 := zJ (qm e2) (by decide)
  simp only [if_pos he]
  refine ⟨fun h => (by simp at h), fun _ => ?_⟩
  have eN : (bif !negI t then decide (0 < ((canon (numI t)).length : Int)) else false) = (!negI t && decide (0 < numI t)) := by rw [yT]; cases negI t <;> rfl
  rw [eN]
  refine ⟨((negI s, numI s), (!negI t && decide (0 < numI t), numI t)), ⟨⟨⟨rfl, ⟨rfl, rfl, za _ _ _⟩, trivial⟩, ⟨rfl, ⟨rfl, rfl, za _ _ _⟩, trivial⟩, trivial⟩, c1, c2⟩, ⟨_, rfl⟩, ?_⟩
  rintro _ rfl
  simp only [Xz]
  refine ⟨((sumS (negI s) (numI s) (!negI t) (numI t)).1 && decide (0 < (sumS (negI s) (numI s) (!negI t) (numI t)).2), (sumS (negI s) (numI s) (!negI t) (numI t)).2), ⟨⟨⟨rfl, ⟨rfl, rfl, za _ _ _⟩, trivial⟩, trivial⟩, ?_⟩, ⟨_, rfl⟩, ?_⟩
  ·have := zJ (Nat.lt_of_le_of_lt (Kj (negI s) (numI s) (!negI t) (numI t)) b1) (by decide)
   show (canon (sumS (negI s) (numI s) (!negI t) (numI t)).2).length < 1000000
   omega
  rintro _ rfl
  rw [Ks]
  have e : subI s t = wr (sumS (negI s) (numI s) (!negI t) (numI t)).1 (sumS (negI s) (numI s) (!negI t) (numI t)).2 := if_pos he
  rw [e] at hq
  exact RetR.scal hq rfl (by simp [resV])
 ·simp only [if_neg he]
  refine ⟨fun _ => ?_, fun h => (by simp [he] at h)⟩
  have e : subI s t = ([], zp s t) := if_neg he
  rw [e] at hq
  exact RetR.scal hq rfl (by simp [resV])
theorem ze5 : zb Tryd.prog 95 mulC := by
 refine ze (fn := Tryd.f95) (c := Tryd.f95.body.getD .skip) rfl rfl rfl fun p hp O w0 Q hq => ?_
 obtain ⟨s, t⟩ := p
 obtain ⟨hs, ht⟩ := hp
 replace hq := hq _ rfl
 simp only at hs ht hq
 refine zc.run hmix QH [] 400 (T := .ex (fun (x : List UInt8 × List UInt8) => eqL [AV.str s, AV.str t] [AV.str x.1, AV.str x.2] ∧ x.1.length < 4611686018427387904 ∧ x.2.length < 4611686018427387904) fun n => .all (fun (r : Int × (Bool × Nat) × Bool × Nat) => r = if zp n.1 n.2 = 0 then ((0 : Int), (negI n.1, numI n.1), negI n.2, numI n.2) else (zp n.1 n.2, (false, 0), false, 0)) fun n => .ite (!decide (n.1 = 0)) (.leaf (.ret [.str (Array.toList #[]), .int .i64 n.1] [.box [.bool (Prod.fst (n.2.1)), .sl (List.length (canon (Prod.snd (n.2.1)))) 1 (natG .u32 (canon (Prod.snd (n.2.1))))], .box [.bool (Prod.fst (n.2.2)), .sl (List.length (canon (Prod.snd (n.2.2)))) 1 (natG .u32 (canon (Prod.snd (n.2.2))))]])) (.ex (fun (x : Nat × Nat) => eqL [AV.sl (List.length (canon (Prod.snd (n.2.1)))) 1 (natG .u32 (canon (Prod.snd (n.2.1)))), AV.sl (List.length (canon (Prod.snd (n.2.2)))) 1 (natG .u32 (canon (Prod.snd (n.2.2))))] [AV.sl (canon x.1).length 1 (natG .u32 (canon x.1)), AV.sl (canon x.2).length 1 (natG .u32 (canon x.2))] ∧ fits x.1 ∧ fits x.2) fun n_1 => .all (fun (p : Nat) => p = n_1.1 * n_1.2) fun n_2 => .ex (fun (x : Bool × Nat) => eqL [AV.agg [AV.bool !Prod.fst (n.2.1) == Prod.fst (n.2.2), AV.sl (canon n_2).length 1 (zg (natG .u32 (padN (List.length (canon n_1.1) + List.length (canon n_1.2)) n_2)) 0)]] [AV.agg [AV.bool x.1, AV.sl (canon x.2).length 1 (natG .u32 (canon x.2))]] ∧ List.length (canon x.2) < 1000000) fun n_3 => .all (fun (r : List UInt8 × Int) => r = wr n_3.1 n_3.2) fun n_4 => .leaf (.ret [.str n_4.1, .int .i64 n_4.2] [.box [.bool (Prod.fst (n.2.1)), .sl (List.length (canon (Prod.snd (n.2.1)))) 1 (natG .u32 (canon (Prod.snd (n.2.1))))], .box [.bool (Prod.fst (n.2.2)), .sl (List.length (canon (Prod.snd (n.2.2)))) 1 (natG .u32 (canon (Prod.snd (n.2.2))))], .arr (List.length (canon n_1.1) + List.length (canon n_1.2)) 1 (natG .u32 (padN (List.length (canon n_1.1) + List.length (canon n_1.2)) n_2))]))) (by kernel_rfl) ?_
 simp only [Tree.holds, zd]
 refine ⟨(s, t), ⟨by simp, by omega, by omega⟩, ⟨_, rfl⟩, ?_⟩
 rintro _ rfl
 simp only
 by_cases he : zp s t = 0
 ·obtain ⟨e1, e2⟩ := zk.1 he
  obtain ⟨b1, b2⟩ := VT (qm e1) (qm e2)
  have c1 := zJ (qm e1) (by decide)
  have c2 := zJ (qm e2) (by decide)
  simp only [if_pos he]
  refine ⟨fun h => (by simp at h), fun _ => ?_⟩
  refine ⟨(numI s, numI t), ⟨⟨⟨rfl, rfl, za _ _ _⟩, ⟨rfl, rfl, za _ _ _⟩, trivial⟩, by show (canon (numI s)).length < 1000000; omega, by show (canon (numI t)).length < 1000000; omega⟩, ⟨_, rfl⟩, ?_⟩
  rintro _ rfl
  refine ⟨(negI s != negI t, numI s * numI t), ⟨⟨⟨rfl, ⟨rfl, rfl, fun j o hj ho => by simp only [zg, natG, Nat.zero_add, padN, kU hj]⟩, trivial⟩, trivial⟩, ?_⟩, ⟨_, rfl⟩, ?_⟩
  ·have := zJ b2 (by decide)
   show (canon (numI s * numI t)).length < 1000000
   omega
  rintro _ rfl
  have e : mulI s t = wr (negI s != negI t) (numI s * numI t) := if_pos he
  rw [e] at hq
  exact RetR.scal hq rfl (by simp [resV])
 ·simp only [if_neg he]
  refine ⟨fun _ => ?_, fun h => (by simp [he] at h)⟩
  have e : mulI s t = ([], zp s t) := if_neg he
  rw [e] at hq
  exact RetR.scal hq rfl (by simp [resV])
theorem zbf : zb Tryd.prog 96 zcb := by
 refine ze (fn := Tryd.f96) (c := Tryd.f96.body.getD .skip) rfl rfl rfl fun p hp O w0 Q hq => ?_
 obtain ⟨s, t⟩ := p
 obtain ⟨hs, ht⟩ := hp
 replace hq := hq _ rfl
 simp only at hs ht hq
 refine zc.run hmix QH [] 400 (T := .ex (fun (x : List UInt8 × List UInt8) => eqL [AV.str s, AV.str t] [AV.str x.1, AV.str x.2] ∧ x.1.length < 4611686018427387904 ∧ x.2.length < 4611686018427387904) fun n => .all (fun (r : Int × (Bool × Nat) × Bool × Nat) => r = if zp n.1 n.2 = 0 then ((0 : Int), (negI n.1, numI n.1), negI n.2, numI n.2) else (zp n.1 n.2, (false, 0), false, 0)) fun n => .ite (!decide (n.1 = 0)) (.leaf (.ret [.int .i64 0, .int .i64 n.1] [.box [.bool (Prod.fst (n.2.1)), .sl (List.length (canon (Prod.snd (n.2.1)))) 1 (natG .u32 (canon (Prod.snd (n.2.1))))], .box [.bool (Prod.fst (n.2.2)), .sl (List.length (canon (Prod.snd (n.2.2)))) 1 (natG .u32 (canon (Prod.snd (n.2.2))))]])) (.ite (bif Prod.fst (n.2.1) then !Prod.fst (n.2.2) else false) (.leaf (.ret [.int .i64 (-1 : Int), .int .i64 0] [.box [.bool (Prod.fst (n.2.1)), .sl (List.length (canon (Prod.snd (n.2.1)))) 1 (natG .u32 (canon (Prod.snd (n.2.1))))], .box [.bool (Prod.fst (n.2.2)), .sl (List.length (canon (Prod.snd (n.2.2)))) 1 (natG .u32 (canon (Prod.snd (n.2.2))))]])) (.ite (bif Prod.fst (n.2.2) then !Prod.fst (n.2.1) else false) (.leaf (.ret [.int .i64 1, .int .i64 0] [.box [.bool (Prod.fst (n.2.1)), .sl (List.length (canon (Prod.snd (n.2.1)))) 1 (natG .u32 (canon (Prod.snd (n.2.1))))], .box [.bool (Prod.fst (n.2.2)), .sl (List.length (canon (Prod.snd (n.2.2)))) 1 (natG .u32 (canon (Prod.snd (n.2.2))))]])) (.ite (Prod.fst (n.2.1)) (.ex (fun (x : Nat × Nat) => eqL [AV.sl (List.length (canon (Prod.snd (n.2.2)))) 1 (natG .u32 (canon (Prod.snd (n.2.2)))), AV.sl (List.length (canon (Prod.snd (n.2.1)))) 1 (natG .u32 (canon (Prod.snd (n.2.1))))] [AV.sl (canon x.1).length 1 (natG .u32 (canon x.1)), AV.sl (canon x.2).length 1 (natG .u32 (canon x.2))] ∧ fits x.1 ∧ fits x.2) fun n_1 => .all (fun (r : Int) => r = cmp3 n_1.1 n_1.2) fun n_2 => .leaf (.ret [.int .i64 n_2, .int .i64 0] [.box [.bool (Prod.fst (n.2.1)), .sl (List.length (canon (Prod.snd (n.2.1)))) 1 (natG .u32 (canon (Prod.snd (n.2.1))))], .box [.bool (Prod.fst (n.2.2)), .sl (List.length (canon (Prod.snd (n.2.2)))) 1 (natG .u32 (canon (Prod.snd (n.2.2))))]])) (.ex (fun (x : Nat × Nat) => eqL [AV.sl (List.length (canon (Prod.snd (n.2.1)))) 1 (natG .u32 (canon (Prod.snd (n.2.1)))), AV.sl (List.length (canon (Prod.snd (n.2.2)))) 1 (natG .u32 (canon (Prod.snd (n.2.2))))] [AV.sl (canon x.1).length 1 (natG .u32 (canon x.1)), AV.sl (canon x.2).length 1 (natG .u32 (canon x.2))] ∧ fits x.1 ∧ fits x.2) fun n_1 => .all (fun (r : Int) => r = cmp3 n_1.1 n_1.2) fun n_2 => .leaf (.ret [.int .i64 n_2, .int .i64 0] [.box [.bool (Prod.fst (n.2.1)), .sl (List.length (canon (Prod.snd (n.2.1)))) 1 (natG .u32 (canon (Prod.snd (n.2.1))))], .box [.bool (Prod.fst (n.2.2)), .sl (List.length (canon (Prod.snd (n.2.2)))) 1 (natG .u32 (canon (Prod.snd (n.2.2))))]])))))) (by kernel_rfl) ?_
 simp only [Tree.holds, zd]
 refine ⟨(s, t), ⟨by simp, by omega, by omega⟩, ⟨_, rfl⟩, ?_⟩
 rintro _ rfl
 simp only
 by_cases he : zp s t = 0
 ·obtain ⟨e1, e2⟩ := zk.1 he
  obtain ⟨b1, b2⟩ := VT (qm e1) (qm e2)
  have c1 := zJ (qm e1) (by decide)
  have c2 := zJ (qm e2) (by decide)
  simp only [if_pos he]
  refine ⟨fun h => (by simp at h), fun _ => ?_⟩
  have e : ZL s t = (cmpZ (negI s) (numI s) (negI t) (numI t), 0) := if_pos he
  rw [e] at hq
  have ec : ∀ a b : Nat, cmp3 a b = cmpN a b := fun _ _ => rfl
  simp only [cmpZ] at hq
  have f1 : fits (numI s) := by show (canon (numI s)).length < 1000000; omega
  have f2 : fits (numI t) := by show (canon (numI t)).length < 1000000; omega
  refine ⟨fun h => ?_, fun h1 => ⟨fun h => ?_, fun h2 => ⟨fun h => ⟨(numI t, numI s), ⟨⟨⟨rfl, rfl, za _ _ _⟩, ⟨rfl, rfl, za _ _ _⟩, trivial⟩, f2, f1⟩, ⟨_, rfl⟩, ?_⟩, fun h => ⟨(numI s, numI t), ⟨⟨⟨rfl, rfl, za _ _ _⟩, ⟨rfl, rfl, za _ _ _⟩, trivial⟩, f1, f2⟩, ⟨_, rfl⟩, ?_⟩⟩⟩⟩
  ·cases hm : negI s <;> cases hn : negI t <;> rw [hm, hn] at h hq <;> first | (cases h; done) | exact RetR.scal hq rfl (by simp [resV])
  ·cases hm : negI s <;> cases hn : negI t <;> rw [hm, hn] at h h1 hq <;> first | (cases h; done) | (cases h1; done) | exact RetR.scal hq rfl (by simp [resV])
  ·rintro _ rfl
   rw [ec]
   cases hm : negI s <;> cases hn : negI t <;> rw [hm, hn] at h1 h2 hq <;> rw [hm] at h <;> first | (cases h; done) | (cases h1; done) | (cases h2; done) | exact RetR.scal hq rfl (by simp [resV])
  ·rintro _ rfl
   rw [ec]
   cases hm : negI s <;> cases hn : negI t <;> rw [hm, hn] at h1 h2 hq <;> rw [hm] at h <;> first | (cases h; done) | (cases h1; done) | (cases h2; done) | exact RetR.scal hq rfl (by simp [resV])
 ·simp only [if_neg he]
  refine ⟨fun _ => ?_, fun h => (by simp [he] at h)⟩
  have e : ZL s t = (0, zp s t) := if_neg he
  rw [e] at hq
  exact RetR.scal hq rfl (by simp [resV])
end Go.Proofs.Tryd
end

/- The integers: division; fractions. -/
section
set_option maxRecDepth 100000
open Go Go.Sx Go.Proofs Go.Nov
namespace Go.Proofs.Tryd
attribute [local simp] eqKV eqA eqA0 eqH eqB eqL eqL0
def dmC : Ctr := ctrP true (fun p : List UInt8 × List UInt8 => [.str p.1, .str p.2]) (fun p => p.1.length < 2 ^ 62 ∧ p.2.length < 2 ^ 62) (fun p r => r = dmI p.1 p.2) (fun _ r => (.tup [.str r.1, .str r.2.1, .int .i64 r.2.2], []))
noncomputable def GDm : Nat → Option Ctr := fun f => if f = 72 then some (yz) else if f = 73 then some (xd) else if f = 142 then some (Ka) else if f = 90 then some (QQ) else if f = 74 then some (yL) else none
theorem zeg : ∀ g c, GDm g = some c → zb Tryd.prog g c := okIf QP (okIf Ql (okIf Ku (okIf uc (okIf u9 (zn)))))
theorem KJ : zb Tryd.prog 143 dmC := by
 refine ze (fn := Tryd.f143) (c := Tryd.f143.body.getD .skip) rfl rfl rfl fun p hp O w0 Q hq => ?_
 obtain ⟨s, t⟩ := p
 obtain ⟨hs, ht⟩ := hp
 replace hq := hq _ rfl
 simp only at hs ht hq
 refine zc.run hmix zeg [] 400 (T := .ex (fun (x : List UInt8 × List UInt8) => eqL [AV.str s, AV.str t] [AV.str x.1, AV.str x.2] ∧ x.1.length < 4611686018427387904 ∧ x.2.length < 4611686018427387904) fun n => .all (fun (r : Int × (Bool × Nat) × Bool × Nat) => r = if zp n.1 n.2 = 0 then ((0 : Int), (negI n.1, numI n.1), negI n.2, numI n.2) else (zp n.1 n.2, (false, 0), false, 0)) fun n => .ite (!decide (n.1 = 0)) (.leaf (.ret [.str (Array.toList #[]), .str (Array.toList #[]), .int .i64 n.1] [.box [.bool (Prod.fst (n.2.1)), .sl (List.length (canon (Prod.snd (n.2.1)))) 1 (natG .u32 (canon (Prod.snd (n.2.1))))], .box [.bool (Prod.fst (n.2.2)), .sl (List.length (canon (Prod.snd (n.2.2)))) 1 (natG .u32 (canon (Prod.snd (n.2.2))))]])) (.ite (decide ((↑(List.length (canon (Prod.snd (n.2.2)))) : Int) = 0)) (.leaf (.ret [.str (Array.toList #[]), .str (Array.toList #[]), .int .i64 16] [.box [.bool (Prod.fst (n.2.1)), .sl (List.length (canon (Prod.snd (n.2.1)))) 1 (natG .u32 (canon (Prod.snd (n.2.1))))], .box [.bool (Prod.fst (n.2.2)), .sl (List.length (canon (Prod.snd (n.2.2)))) 1 (natG .u32 (canon (Prod.snd (n.2.2))))]])) (.ex (fun (x : Nat × Nat) => eqL [AV.sl (List.length (canon (Prod.snd (n.2.1)))) 1 (natG .u32 (canon (Prod.snd (n.2.1)))), AV.sl (List.length (canon (Prod.snd (n.2.2)))) 1 (natG .u32 (canon (Prod.snd (n.2.2))))] [AV.sl (canon x.1).length 1 (natG .u32 (canon x.1)), AV.sl (canon x.2).length 1 (natG .u32 (canon x.2))] ∧ List.length (canon x.1) < 100000 ∧ List.length (canon x.2) < 100000 ∧ 0 < x.2) fun n_1 => .all (fun (r : Nat × Nat) => r = (n_1.1 / n_1.2, n_1.1 % n_1.2)) fun n_2 => .ite (bif Prod.fst (n.2.1) then decide ((0 : Int) < (↑(canon n_2.2).length : Int)) else false) (.ex (fun (x : Nat × Nat) => eqL [AV.sl (canon n_2.1).length 1 (natG .u32 (canon n_2.1)), AV.sl 1 1 (zg (zj 1 [AV.int .u32 1]) 0)] [AV.sl (canon x.1).length 1 (natG .u32 (canon x.1)), AV.sl (canon x.2).length 1 (natG .u32 (canon x.2))] ∧ List.length (canon x.1) < 100000 ∧ List.length (canon x.2) < 100000) fun n_3 => .all (fun (d : Nat) => d = n_3.1 + n_3.2) fun n_4 => .ex (fun (x : Nat × Nat) => eqL [AV.sl (List.length (canon (Prod.snd (n.2.2)))) 1 (natG .u32 (canon (Prod.snd (n.2.2)))), AV.sl (canon n_2.2).length 1 (natG .u32 (canon n_2.2))] [AV.sl (canon x.1).length 1 (natG .u32 (canon x.1)), AV.sl (canon x.2).length 1 (natG .u32 (canon x.2))] ∧ fits x.1 ∧ x.2 ≤ x.1) fun n_5 => .all (fun (d : Nat) => d = n_5.1 - n_5.2) fun n_6 => .ex (fun (x : Bool × Nat) => eqL [AV.agg [AV.bool !Prod.fst (n.2.1) == Prod.fst (n.2.2), AV.sl (canon n_4).length 1 (natG .u32 (canon n_4))]] [AV.agg [AV.bool x.1, AV.sl (canon x.2).length 1 (natG .u32 (canon x.2))]] ∧ List.length (canon x.2) < 1000000) fun n_7 => .all (fun (r : List UInt8 × Int) => r = wr n_7.1 n_7.2) fun n_8 => .ite (!decide (n_8.2 = 0)) (.leaf (.ret [.str (Array.toList #[]), .str (Array.toList #[]), .int .i64 n_8.2] [.box [.bool (Prod.fst (n.2.1)), .sl (List.length (canon (Prod.snd (n.2.1)))) 1 (natG .u32 (canon (Prod.snd (n.2.1))))], .box [.bool (Prod.fst (n.2.2)), .sl (List.length (canon (Prod.snd (n.2.2)))) 1 (natG .u32 (canon (Prod.snd (n.2.2))))], .arr 1 1 (zj 1 [.int .u32 1])])) (.ex (fun (x : Bool × Nat) => eqL [AV.agg [AV.bool false, AV.sl (canon n_6).length 1 (natG .u32 (canon n_6))]] [AV.agg [AV.bool x.1, AV.sl (canon x.2).length 1 (natG .u32 (canon x.2))]] ∧ List.length (canon x.2) < 1000000) fun n_9 => .all (fun (r : List UInt8 × Int) => r = wr n_9.1 n_9.2) fun n_10 => .leaf (.ret [.str n_8.1, .str n_10.1, .int .i64 0] [.box [.bool (Prod.fst (n.2.1)), .sl (List.length (canon (Prod.snd (n.2.1)))) 1 (natG .u32 (canon (Prod.snd (n.2.1))))], .box [.bool (Prod.fst (n.2.2)), .sl (List.length (canon (Prod.snd (n.2.2)))) 1 (natG .u32 (canon (Prod.snd (n.2.2))))], .arr 1 1 (zj 1 [.int .u32 1])]))) (.ex (fun (x : Bool × Nat) => eqL [AV.agg [AV.bool !Prod.fst (n.2.1) == Prod.fst (n.2.2), AV.sl (canon n_2.1).length 1 (natG .u32 (canon n_2.1))]] [AV.agg [AV.bool x.1, AV.sl (canon x.2).length 1 (natG .u32 (canon x.2))]] ∧ List.length (canon x.2) < 1000000) fun n_3 => .all (fun (r : List UInt8 × Int) => r = wr n_3.1 n_3.2) fun n_4 => .ite (!decide (n_4.2 = 0)) (.leaf (.ret [.str (Array.toList #[]), .str (Array.toList #[]), .int .i64 n_4.2] [.box [.bool (Prod.fst (n.2.1)), .sl (List.length (canon (Prod.snd (n.2.1)))) 1 (natG .u32 (canon (Prod.snd (n.2.1))))], .box [.bool (Prod.fst (n.2.2)), .sl (List.length (canon (Prod.snd (n.2.2)))) 1 (natG .u32 (canon (Prod.snd (n.2.2))))]])) (.ex (fun (x : Bool × Nat) => eqL [AV.agg [AV.bool false, AV.sl (canon n_2.2).length 1 (natG .u32 (canon n_2.2))]] [AV.agg [AV.bool x.1, AV.sl (canon x.2).length 1 (natG .u32 (canon x.2))]] ∧ List.length (canon x.2) < 1000000) fun n_5 => .all (fun (r : List UInt8 × Int) => r = wr n_5.1 n_5.2) fun n_6 => .leaf (.ret [.str n_4.1, .str n_6.1, .int .i64 0] [.box [.bool (Prod.fst (n.2.1)), .sl (List.length (canon (Prod.snd (n.2.1)))) 1 (natG .u32 (canon (Prod.snd (n.2.1))))], .box [.bool (Prod.fst (n.2.2)), .sl (List.length (canon (Prod.snd (n.2.2)))) 1 (natG .u32 (canon (Prod.snd (n.2.2))))]])))))) (by kernel_rfl) ?_
 simp only [Tree.holds, zd]
 refine ⟨(s, t), ⟨by simp, by omega, by omega⟩, ⟨_, rfl⟩, ?_⟩
 rintro _ rfl
 simp only
 by_cases he : zp s t = 0
 ·obtain ⟨e1, e2⟩ := zk.1 he
  have c1 := zJ (qm e1) (by decide)
  have c2 := zJ (qm e2) (by decide)
  simp only [if_pos he]
  refine ⟨fun h => (by simp at h), fun _ => ?_⟩
  refine ⟨fun h0 => ?_, fun h0 => ?_⟩
  ·have h0 : numI t = 0 := kB.1 (by have := of_decide_eq_true h0; omega)
   have e : dmI s t = ([], [], 16) := by rw [dmI, if_neg (by rw [he]; decide), if_pos h0]
   rw [e] at hq
   exact RetR.scal hq rfl (by simp [resV])
  have h0 : numI t ≠ 0 := fun h => of_decide_eq_false h0 (by rw [kB.2 h]; rfl)
  have e : dmI s t = ((wr (negI s != negI t) (dmQ s t)).1, (wr false (dmM s t)).1, 0) := by rw [dmI, if_neg (by rw [he]; decide), if_neg h0]
  rw [e] at hq
  have rq := UF e1 h0
  have rm := YV (s := s) e2 h0
  have eL : ∀ a b : Nat, eqL [AV.sl (canon a).length 1 (natG .u32 (canon a)), AV.sl (canon b).length 1 (natG .u32 (canon b))] [AV.sl (canon a).length 1 (natG .u32 (canon a)), AV.sl (canon b).length 1 (natG .u32 (canon b))] := fun a b => ⟨⟨rfl, rfl, za _ _ _⟩, ⟨rfl, rfl, za _ _ _⟩, trivial⟩
  have eV : ∀ (b : Bool) (a : Nat), eqL [.agg [AV.bool b, AV.sl (canon a).length 1 (natG .u32 (canon a))]] [.agg [AV.bool b, AV.sl (canon a).length 1 (natG .u32 (canon a))]] := fun b a => ⟨⟨rfl, ⟨rfl, rfl, za _ _ _⟩, trivial⟩, trivial⟩
  have big : ∀ {a : Nat}, room a → (canon a).length < 1000000 := fun {a} h => by
   obtain ⟨h3, h4, _⟩ := yw (wY (neg := false) h)
   have := zJ (qm h3) (by decide)
   rw [h4] at this; omega
  refine ⟨(numI s, numI t), ⟨eL _ _, c1, c2, Nat.pos_of_ne_zero h0⟩, ⟨_, rfl⟩, ?_⟩
  rintro _ rfl
  simp only
  rw [yT]
  have hmod := Nat.mod_lt (numI s) (Nat.pos_of_ne_zero h0)
  refine ⟨fun hc => ?_, fun hc => ?_⟩
  ·have hc : negI s = true ∧ 0 < numI s % numI t := by
    cases hn : negI s with
    | false => rw [hn] at hc; cases hc
    | true => rw [hn] at hc; exact ⟨rfl, of_decide_eq_true hc⟩
   have eQ : dmQ s t = numI s / numI t + 1 := if_pos hc
   have eM : dmM s t = numI t - numI s % numI t := if_pos hc
   rw [eQ, eM] at hq
   rw [eQ] at rq
   rw [eM] at rm
   have hone : canon 1 = [1] := by
    rw [qA (by decide)]
    exact congrArg (1 :: ·) z8
   have rdiv := room_le (Nat.div_le_self (numI s) (numI t)) (jf e1)
   have hdl : (canon (numI s / numI t)).length < 100000 := by
    have := zJ (Nat.lt_of_le_of_lt (Nat.div_le_self (numI s) (numI t)) (qm e1)) (by decide)
    exact this
   refine ⟨(numI s / numI t, 1), ⟨⟨⟨rfl, rfl, za _ _ _⟩, ⟨by rw [hone]; rfl, rfl, ?_⟩, trivial⟩, hdl, by show (canon 1).length < 100000; rw [hone]; decide⟩, ⟨_, rfl⟩, ?_⟩
   ·intro j o hj ho
    have : j = 0 := by omega
    subst this
    have : o = 0 := by omega
    subst this
    show AV.int .u32 1 = .int .u32 (((canon 1).getD 0 0 : Nat) : Int)
    rw [hone]; rfl
   rintro _ rfl
   refine ⟨(numI t, numI s % numI t), ⟨eL _ _, by show (canon (numI t)).length < 1000000; omega, by show numI s % numI t ≤ numI t; omega⟩, ⟨_, rfl⟩, ?_⟩
   rintro _ rfl
   refine ⟨(negI s != negI t, numI s / numI t + 1), ⟨eV _ _, big rq⟩, ⟨_, rfl⟩, ?_⟩
   rintro _ rfl
   have hz := wY (neg := (negI s != negI t)) rq
   refine ⟨fun h => by simp [hz] at h, fun _ => ⟨(false, numI t - numI s % numI t), ⟨eV _ _, big rm⟩, ⟨_, rfl⟩, ?_⟩⟩
   rintro _ rfl
   exact RetR.scal hq rfl (by simp [resV])
  ·have hc : ¬ (negI s = true ∧ 0 < numI s % numI t) := by
    rintro ⟨g1, g2⟩
    rw [g1, decide_eq_true g2] at hc
    cases hc
   have eQ : dmQ s t = numI s / numI t := if_neg hc
   have eM : dmM s t = numI s % numI t := if_neg hc
   rw [eQ, eM] at hq
   rw [eQ] at rq
   rw [eM] at rm
   refine ⟨(negI s != negI t, numI s / numI t), ⟨eV _ _, big rq⟩, ⟨_, rfl⟩, ?_⟩
   rintro _ rfl
   have hz := wY (neg := (negI s != negI t)) rq
   refine ⟨fun h => by simp [hz] at h, fun _ => ⟨(false, numI s % numI t), ⟨eV _ _, big rm⟩, ⟨_, rfl⟩, ?_⟩⟩
   rintro _ rfl
   exact RetR.scal hq rfl (by simp [resV])
 ·simp only [if_neg he]
  refine ⟨fun _ => ?_, fun h => (by simp [he] at h)⟩
  have e : dmI s t = ([], [], zp s t) := if_pos he
  rw [e] at hq
  exact RetR.scal hq rfl (by simp [resV])
def Y6 : Ctr := ctrP true (fun s : List UInt8 => [.str s]) (fun s => s.length < 2 ^ 62) (fun s r => r = if errR s = 0 then (numR s, denR s, 0) else ([], [], errR s)) (fun _ (r : List UInt8 × List UInt8 × Int) => (.tup [.str r.1, .str r.2.1, .int .i64 r.2.2], []))
noncomputable def GPa : Nat → Option Ctr := fun f => if f = 36 then some (x2) else if f = 57 then some (Vy) else none
theorem zd7 : ∀ g c, GPa g = some c → zb Tryd.prog g c := okIf kz (okIf JN (zn))
theorem Yh : zb Tryd.prog 101 Y6 := by
 refine ze (fn := Tryd.f101) (c := Tryd.f101.body.getD .skip) rfl rfl rfl fun s hs O w0 Q hq => ?_
 replace hq := hq _ rfl
 refine zc.run hmix zd7 [] 400 (T := .ex (fun (x : List UInt8) => eqL [AV.str s] [AV.str x] ∧ x.length < 4611686018427387904) fun n => .all (fun (r : Int) => r = errR n) fun n => .ite (!decide (n = 0)) (.leaf (.ret [.str (Array.toList #[]), .str (Array.toList #[]), .int .i64 n] [])) (.ex (fun (x : List UInt8) => eqL [AV.str s] [AV.str x] ∧ x.length < 4611686018427387904) fun n => .all (fun (r : List UInt8 × List UInt8 × Bool) => r = cutR n) fun n => .ite (!Prod.snd n.2) (.leaf (.ret [.str n.1, .str (Array.toList #[(49 : UInt8)]), .int .i64 0] [])) (.leaf (.ret [.str n.1, .str (n.2.1), .int .i64 0] [])))) (by kernel_rfl) ?_
 simp only [Tree.holds, zd]
 refine ⟨s, ⟨by simp, hs⟩, ⟨_, rfl⟩, ?_⟩
 rintro _ rfl
 refine ⟨fun h => ?_, fun h => ⟨s, ⟨by simp, hs⟩, ⟨_, rfl⟩, ?_⟩⟩
 ·have h : errR s ≠ 0 := by simpa using h
  rw [if_neg h] at hq
  exact RetR.scal hq rfl (by simp [resV])
 ·have h : errR s = 0 := by simpa using h
  rw [if_pos h] at hq
  rintro _ rfl
  refine ⟨fun g => ?_, fun g => ?_⟩
  ·have e : denR s = [49] := by unfold denR; rw [if_neg (by simpa using g)]
   rw [e] at hq
   exact RetR.scal hq rfl (by simp [resV, numR])
  ·have e : denR s = (cutR s).2.1 := by unfold denR; rw [if_pos (by simpa using g)]
   rw [e] at hq
   exact RetR.scal hq rfl (by simp [resV, numR])
def Kd : Ctr := ctrP true (fun p : List UInt8 × List UInt8 => [.str p.1, .str p.2]) (fun p => p.1.length < 2 ^ 62 ∧ p.2.length < 2 ^ 62) (fun p r => r = j7 p.1 p.2) (fun _ r => (.tup [.str r.1, .int .i64 r.2], []))
noncomputable def GMk : Nat → Option Ctr := fun f => if f = 60 then some (gcdC) else if f = 143 then some (dmC) else none
theorem ze8 : ∀ g c, GMk g = some c → zb Tryd.prog g c := okIf XH (okIf KJ (zn))
theorem za9 : zb Tryd.prog 140 Kd := by
 refine ze (fn := Tryd.f140) (c := Tryd.f140.body.getD .skip) rfl rfl rfl fun p hp O w0 Q hq => ?_
 obtain ⟨s, t⟩ := p
 obtain ⟨hs, ht⟩ := hp
 replace hq := hq _ rfl
 simp only at hs ht hq
 refine zc.run hmix ze8 [] 400 (T := .ex (fun (x : List UInt8 × List UInt8) => eqL [AV.str s, AV.str t] [AV.str x.1, AV.str x.2] ∧ x.1.length < 4611686018427387904 ∧ x.2.length < 4611686018427387904) fun n => .all (fun (r : List UInt8 × Int) => r = gcdR n.1 n.2) fun n => .ite (!decide (n.2 = 0)) (.leaf (.ret [.str (Array.toList #[]), .int .i64 n.2] [])) (.ite (decide (t = Array.toList #[(48 : UInt8)])) (.leaf (.ret [.str (Array.toList #[]), .int .i64 16] [])) (.side ((0 : Int) ≤ 0 ∧ (0 : Int) < t.length) (.ite (decide ((↑(UInt8.toNat (List.getD t 0 (0 : UInt8))) : Int) = 45)) (.side (1 + n.1.length ≤ 9223372036854775807) (.ex (fun (x : List UInt8 × List UInt8) => eqL [AV.str s, AV.str (Array.toList #[(45 : UInt8)] ++ n.1)] [AV.str x.1, AV.str x.2] ∧ x.1.length < 4611686018427387904 ∧ x.2.length < 4611686018427387904) fun n_1 => .all (fun (r : List UInt8 × List UInt8 × Int) => r = dmI n_1.1 n_1.2) fun n_2 => .ex (fun (x : List UInt8 × List UInt8) => eqL [AV.str t, AV.str (Array.toList #[(45 : UInt8)] ++ n.1)] [AV.str x.1, AV.str x.2] ∧ x.1.length < 4611686018427387904 ∧ x.2.length < 4611686018427387904) fun n => .all (fun (r : List UInt8 × List UInt8 × Int) => r = dmI n.1 n.2) fun n => .ite (decide (n.1 = Array.toList #[(49 : UInt8)])) (.leaf (.ret [.str n_2.1, .int .i64 0] [])) (.side (n_2.1.length + 1 ≤ 9223372036854775807) (.side (List.length (n_2.1 ++ Array.toList #[(47 : UInt8)]) + n.1.length ≤ 9223372036854775807) (.leaf (.ret [.str (n_2.1 ++ Array.toList #[(47 : UInt8)] ++ n.1), .int .i64 0] [])))))) (.ex (fun (x : List UInt8 × List UInt8) => eqL [AV.str s, AV.str n.1] [AV.str x.1, AV.str x.2] ∧ x.1.length < 4611686018427387904 ∧ x.2.length < 4611686018427387904) fun n_1 => .all (fun (r : List UInt8 × List UInt8 × Int) => r = dmI n_1.1 n_1.2) fun n_2 => .ex (fun (x : List UInt8 × List UInt8) => eqL [AV.str t, AV.str n.1] [AV.str x.1, AV.str x.2] ∧ x.1.length < 4611686018427387904 ∧ x.2.length < 4611686018427387904) fun n => .all (fun (r : List UInt8 × List UInt8 × Int) => r = dmI n.1 n.2) fun n => .ite (decide (n.1 = Array.toList #[(49 : UInt8)])) (.leaf (.ret [.str n_2.1, .int .i64 0] [])) (.side (n_2.1.length + 1 ≤ 9223372036854775807) (.side (List.length (n_2.1 ++ Array.toList #[(47 : UInt8)]) + n.1.length ≤ 9223372036854775807) (.leaf (.ret [.str (n_2.1 ++ Array.toList #[(47 : UInt8)] ++ n.1), .int .i64 0] []))))))))) (by kernel_rfl) ?_
 simp only [Tree.holds, zd, inR, lo, hi, Int.toNat_natCast]
 refine ⟨(s, t), ⟨by simp, by omega, by omega⟩, ⟨_, rfl⟩, ?_⟩
 rintro _ rfl
 by_cases he : zp s t = 0
 ·obtain ⟨e1, e2⟩ := zk.1 he
  have eg : gcdR s t = wr false (Nat.gcd (numI s) (numI t)) := if_pos he
  by_cases h0 : numI t = 0
  ·have ht0 : t = [48] := (x7 e2).2 h0
   have hg0 : Nat.gcd (numI s) (numI t) = numI s := by rw [h0, Nat.gcd_zero_right]
   have hz : (gcdR s t).2 = 0 := by rw [eg, hg0]; exact wY (jf e1)
   have e : j7 s t = ([], 16) := by rw [j7, if_neg (by rw [he]; decide), if_pos h0]
   rw [e] at hq
   refine ⟨fun h => (by simp [hz] at h), fun _ => ⟨fun _ => RetR.scal hq rfl (by simp [resV]), fun h => (by simp [ht0] at h)⟩⟩
  ·obtain ⟨g0, gr⟩ := JP (s := s) e2 h0
   have hz : (gcdR s t).2 = 0 := by rw [eg]; exact wY gr
   have ht0 : t ≠ [48] := fun h => h0 ((x7 e2).1 h)
   have htn : t ≠ [] := by rintro rfl; simp [Wk] at e2
   have hneg := ZO htn
   have e : j7 s t = (VR (negI s != negI t) (numI s) (numI t), 0) := by rw [j7, if_neg (by rw [he]; decide), if_neg h0]
   rw [e, VR] at hq
   have ds : Nat.gcd (numI s) (numI t) ∣ numI s := Nat.gcd_dvd_left _ _
   have dt : Nat.gcd (numI s) (numI t) ∣ numI t := Nat.gcd_dvd_right _ _
   generalize hgg : Nat.gcd (numI s) (numI t) = g at *
   have rt := room_le (Nat.div_le_self (numI t) g) (jf e2)
   have l1 := v7 false g
   have l2 := v7 true g
   have fin : ∀ b : Bool, b = negI t → ∀ (z w : List UInt8 × List UInt8 × Int), z = dmI s (wr b g).1 → w = dmI t (wr b g).1 →
     (decide (w.1 = [49]) = true → RetR Kd 0 Q [.str z.1, .int .i64 0] []) ∧ (decide (w.1 = [49]) = false → z.1.length + 1 ≤ 9223372036854775807 ∧ (z.1.length + 1 ≤ 9223372036854775807 → (z.1 ++ [47]).length + w.1.length ≤ 9223372036854775807 ∧ ((z.1 ++ [47]).length + w.1.length ≤ 9223372036854775807 → RetR Kd 0 Q [.str (z.1 ++ [47] ++ w.1), .int .i64 0] []))) := by
    rintro b rfl z w rfl rfl
    rw [Wr e1 g0 gr ds, Wr e2 g0 gr dt]
    simp only
    have : (negI t != negI t) = false := by simp
    rw [this]
    have k1 := v7 (negI s != negI t) (numI s / g)
    have k2 := v7 false (numI t / g)
    refine ⟨fun h => ?_, fun h => ⟨by omega, fun _ => ⟨by simp; omega, fun _ => ?_⟩⟩⟩
    ·have h1 := (Vc rt).1 (of_decide_eq_true h)
     rw [if_pos h1] at hq
     exact RetR.scal hq rfl (by simp [resV])
    ·have h1 : ¬ numI t / g = 1 := fun h1 => of_decide_eq_false h ((Vc rt).2 h1)
     rw [if_neg h1] at hq
     exact RetR.scal hq rfl (by simp [resV])
   rw [eg] at hz ⊢
   refine ⟨fun h => (by simp [hz] at h), fun _ => ⟨fun h => absurd (of_decide_eq_true h) ht0, fun _ => ⟨⟨by omega, by have := List.length_pos_iff.2 htn; omega⟩, fun _ => ⟨fun hb => ⟨by omega, fun _ => ?_⟩, fun hb => ?_⟩⟩⟩⟩
   ·have hn : negI t = true := by
     rw [hneg, decide_eq_true_eq]
     exact JA (of_decide_eq_true hb)
    rw [UK g0 gr]
    refine ⟨(s, (wr true g).1), ⟨by simp, by show s.length < _; omega, by show (wr true g).1.length < _; omega⟩, ⟨_, rfl⟩, ?_⟩
    intro z hz
    refine ⟨(t, (wr true g).1), ⟨by simp, by show t.length < _; omega, by show (wr true g).1.length < _; omega⟩, ⟨_, rfl⟩, ?_⟩
    intro w hw
    exact fin true hn.symm z w hz hw
   ·have hn : negI t = false := by
     rw [hneg, decide_eq_false_iff_not]
     intro h
     apply of_decide_eq_false hb
     rw [h]; rfl
    refine ⟨(s, (wr false g).1), ⟨by simp, by show s.length < _; omega, by show (wr false g).1.length < _; omega⟩, ⟨_, rfl⟩, ?_⟩
    intro z hz
    refine ⟨(t, (wr false g).1), ⟨by simp, by show t.length < _; omega, by show (wr false g).1.length < _; omega⟩, ⟨_, rfl⟩, ?_⟩
    intro w hw
    exact fin false hn.symm z w hz hw
 ·have eg : gcdR s t = ([], zp s t) := if_neg he
  have e : j7 s t = ([], zp s t) := if_pos he
  rw [e] at hq
  rw [eg]
  exact ⟨fun _ => RetR.scal hq rfl (by simp [resV]), fun h => by simp [he] at h⟩
end Go.Proofs.Tryd
end

/- Rationals: pairs. -/
section
set_option maxRecDepth 100000
open Go Go.Sx Go.Proofs Go.Nov
namespace Go.Proofs.Tryd
attribute [local simp] eqKV eqA eqA0 eqH eqB eqL eqL0
noncomputable def K93 : List Go.Sx.Item := [.code (Tryd.f93.body.getD .skip)]
structure Pr where
 n : List UInt8
 m : List UInt8
 d : List UInt8
 c : List UInt8
 e : Int
def Pr.box (p : Pr) : Blk := .box [.str p.n, .str p.m, .str p.d, .str p.c, .int .i64 p.e]
def Pr.err (p : Pr) (e : Int) : Pr := ⟨p.n, p.m, p.d, p.c, e⟩
inductive QOp where
 | add | sub | mul
def QOp.fn : QOp → Nat
 | .add => 136
 | .sub => 138
 | .mul => 95
def QOp.op : QOp → List UInt8 → List UInt8 → List UInt8 × Int
 | .add => addI
 | .sub => subI
 | .mul => mulI
def qR (a b : List UInt8) : Pr := if errR a ≠ 0 then ⟨[], [], [], [], errR a⟩ else if errR b ≠ 0 then ⟨numR a, [], denR a, [], errR b⟩ else ⟨numR a, numR b, denR a, denR b, 0⟩
def UA : Ctr := ctrT false false (fun p : List UInt8 × List UInt8 => [.str p.1, .str p.2]) (fun _ => []) (fun p => p.1.length < 2 ^ 62 ∧ p.2.length < 2 ^ 62) (fun p r => r = qR p.1 p.2) (fun _ (r : Pr) => (.ptr 0 0, [r.box]))
def Un : Ctr := ctrT false false (fun p : Pr × QOp => [.ptr 0 0, .fn p.2.fn [] []]) (fun p => [p.1.box]) (fun _ => True) (fun _ (_ : Unit) => True) (fun p _ => (.fn 102 [] [.ptr 1 0, .ptr 2 0], [p.1.box, .box [.ptr 0 0], .box [.fn p.2.fn [] []]]))
structure KX where
 p : Pr
 o : QOp
 x : List UInt8
 y : List UInt8
def WL : Ctr := ctrT false false (fun k : KX => [.str k.x, .str k.y, .ptr 0 0, .ptr 2 0]) (fun k => [.box [.ptr 1 0], k.p.box, .box [.fn k.o.fn [] []]]) (fun k => k.x.length < 2 ^ 62 ∧ k.y.length < 2 ^ 62) (fun k r => r = if k.p.e ≠ 0 then ([], k.p.e) else k.o.op k.x k.y)
 (fun k (r : List UInt8 × Int) => (.str r.1, [.box [.ptr 1 0], (k.p.err r.2).box, .box [.fn k.o.fn [] []]]))
def XM : Ctr := ctrT false false (fun k : Pr × List UInt8 × List UInt8 => [.ptr 0 0, .str k.2.1, .str k.2.2]) (fun k => [k.1.box]) (fun k => k.2.1.length < 2 ^ 62 ∧ k.2.2.length < 2 ^ 62) (fun k r => r = if k.1.e ≠ 0 then ([], k.1.e) else j7 k.2.1 k.2.2)
 (fun k (r : List UInt8 × Int) => (.tup [.str r.1, .int .i64 r.2], [k.1.box]))
theorem UE : zb Tryd.prog 94 Un := by
 refine zB (fn := Tryd.f94) (c := Tryd.f94.body.getD .skip) rfl rfl rfl (fun h => by cases h) fun p hp O w0 σ0 Q hl0 hq => ?_
 obtain ⟨p, o⟩ := p
 replace hq := hq () trivial
 refine zc.run hmix zD [] 400 (T := .leaf (.ret [.fn 102 [] [.ptr 1 0, .ptr 2 0]] [.box [.str p.n, .str p.m, .str p.d, .str p.c, .int .i64 p.e], .box [.ptr 0 0], .box [.fn (QOp.fn o) [] []]])) (by kernel_rfl) ?_
 simp only [Tree.holds, zd]
 refine RetR.keep [0, 1, 2] rfl rfl (by show ∀ j, j < 1 → _; decide) rfl hq ?_ ?_ rfl
 ·rfl
 ·exact ⟨⟨rfl, rfl, rfl, rfl, ⟨rfl, rfl⟩, trivial⟩, ⟨⟨rfl, rfl⟩, trivial⟩, ⟨rfl, trivial⟩, trivial⟩
noncomputable def GK1 : Nat → Option Ctr := fun f => if f = 136 then some (addC) else if f = 138 then some (subC) else if f = 95 then some (mulC) else none
theorem Vh : ∀ g c, GK1 g = some c → zb Tryd.prog g c := okIf zdf (okIf zdu (okIf ze5 (zn)))
theorem YC : zb Tryd.prog 102 WL := by
 refine zB (fn := Tryd.f102) (c := Tryd.f102.body.getD .skip) rfl rfl rfl (fun h => by cases h) fun k hk O w0 σ0 Q hl0 hq => ?_
 obtain ⟨⟨n, m, d, c, e⟩, o, x, y⟩ := k
 obtain ⟨h1, h2⟩ := hk
 replace hq := hq _ rfl
 simp only at h1 h2 hq
 have fin : ∀ r : List UInt8 × Int, (if e ≠ 0 then ([], e) else o.op x y) = r → RetR WL 3 Q [.str r.1] [.box [.ptr 1 0], .box [.str n, .str m, .str d, .str c, .int .i64 r.2], .box [.fn o.fn [] []]] := by
  rintro r rfl
  refine RetR.keep [0, 1, 2] rfl rfl (by show ∀ j, j < 3 → _; decide) rfl hq ?_ ?_ rfl
  ·rfl
  ·exact ⟨⟨⟨rfl, rfl⟩, trivial⟩, ⟨rfl, rfl, rfl, rfl, ⟨rfl, rfl⟩, trivial⟩, ⟨rfl, trivial⟩, trivial⟩
 cases o with
 | add =>
  refine zc.run hmix Vh [] 400 (T := .ite (!decide (e = 0)) (.leaf (.ret [.str (Array.toList #[])] [.box [.ptr 1 0], .box [.str n, .str m, .str d, .str c, .int .i64 e], .box [.fn 136 [] []]])) (.ex (fun (x_1 : List UInt8 × List UInt8) => eqL [AV.str x, AV.str y] [AV.str x_1.1, AV.str x_1.2] ∧ x_1.1.length < 4611686018427387904 ∧ x_1.2.length < 4611686018427387904) fun n_1 => .all (fun (r : List UInt8 × Int) => r = addI n_1.1 n_1.2) fun n_2 => .leaf (.ret [.str n_2.1] [.box [.ptr 1 0], .box [.str n, .str m, .str d, .str c, .int .i64 n_2.2], .box [.fn 136 [] []]]))) (by kernel_rfl) ?_
  simp only [Tree.holds, zd]
  refine ⟨fun h => ?_, fun h => ⟨(x, y), ⟨by simp, h1, h2⟩, ⟨_, rfl⟩, ?_⟩⟩
  ·have h : e ≠ 0 := by simpa using h
   exact fin ([], e) (if_pos h)
  ·have h : e = 0 := by simpa using h
   rintro _ rfl
   exact fin (addI x y) (if_neg (by simp [h]))
 | sub =>
  refine zc.run hmix Vh [] 400 (T := .ite (!decide (e = 0)) (.leaf (.ret [.str (Array.toList #[])] [.box [.ptr 1 0], .box [.str n, .str m, .str d, .str c, .int .i64 e], .box [.fn 138 [] []]])) (.ex (fun (x_1 : List UInt8 × List UInt8) => eqL [AV.str x, AV.str y] [AV.str x_1.1, AV.str x_1.2] ∧ x_1.1.length < 4611686018427387904 ∧ x_1.2.length < 4611686018427387904) fun n_1 => .all (fun (r : List UInt8 × Int) => r = subI n_1.1 n_1.2) fun n_2 => .leaf (.ret [.str n_2.1] [.box [.ptr 1 0], .box [.str n, .str m, .str d, .str c, .int .i64 n_2.2], .box [.fn 138 [] []]]))) (by kernel_rfl) ?_
  simp only [Tree.holds, zd]
  refine ⟨fun h => ?_, fun h => ⟨(x, y), ⟨by simp, h1, h2⟩, ⟨_, rfl⟩, ?_⟩⟩
  ·have h : e ≠ 0 := by simpa using h
   exact fin ([], e) (if_pos h)
  ·have h : e = 0 := by simpa using h
   rintro _ rfl
   exact fin (subI x y) (if_neg (by simp [h]))
 | mul =>
  refine zc.run hmix Vh [] 400 (T := .ite (!decide (e = 0)) (.leaf (.ret [.str (Array.toList #[])] [.box [.ptr 1 0], .box [.str n, .str m, .str d, .str c, .int .i64 e], .box [.fn 95 [] []]])) (.ex (fun (x_1 : List UInt8 × List UInt8) => eqL [AV.str x, AV.str y] [AV.str x_1.1, AV.str x_1.2] ∧ x_1.1.length < 4611686018427387904 ∧ x_1.2.length < 4611686018427387904) fun n_1 => .all (fun (r : List UInt8 × Int) => r = mulI n_1.1 n_1.2) fun n_2 => .leaf (.ret [.str n_2.1] [.box [.ptr 1 0], .box [.str n, .str m, .str d, .str c, .int .i64 n_2.2], .box [.fn 95 [] []]]))) (by kernel_rfl) ?_
  simp only [Tree.holds, zd]
  refine ⟨fun h => ?_, fun h => ⟨(x, y), ⟨by simp, h1, h2⟩, ⟨_, rfl⟩, ?_⟩⟩
  ·have h : e ≠ 0 := by simpa using h
   exact fin ([], e) (if_pos h)
  ·have h : e = 0 := by simpa using h
   rintro _ rfl
   exact fin (mulI x y) (if_neg (by simp [h]))
noncomputable def GMd : Nat → Option Ctr := fun f => if f = 140 then some (Kd) else none
theorem zej : ∀ g c, GMd g = some c → zb Tryd.prog g c := okIf za9 (zn)
theorem zaw : zb Tryd.prog 137 XM := by
 refine zB (fn := Tryd.f137) (c := Tryd.f137.body.getD .skip) rfl rfl rfl (fun h => by cases h) fun k hk O w0 σ0 Q hl0 hq => ?_
 obtain ⟨⟨n, m, d, c, e⟩, x, y⟩ := k
 obtain ⟨h1, h2⟩ := hk
 replace hq := hq _ rfl
 simp only at h1 h2 hq
 have fin : ∀ r : List UInt8 × Int, (if e ≠ 0 then ([], e) else j7 x y) = r → RetR XM 1 Q [.str r.1, .int .i64 r.2] [.box [.str n, .str m, .str d, .str c, .int .i64 e]] := by
  rintro r rfl
  refine RetR.keep [0] rfl rfl (by show ∀ j, j < 1 → _; decide) rfl hq ?_ ?_ rfl
  ·exact ⟨rfl, ⟨rfl, rfl⟩, trivial⟩
  ·exact ⟨⟨rfl, rfl, rfl, rfl, ⟨rfl, rfl⟩, trivial⟩, trivial⟩
 refine zc.run hmix zej [] 400 (T := .ite (!decide (e = 0)) (.leaf (.ret [.str (Array.toList #[]), .int .i64 e] [.box [.str n, .str m, .str d, .str c, .int .i64 e]])) (.ex (fun (x_1 : List UInt8 × List UInt8) => eqL [AV.str x, AV.str y] [AV.str x_1.1, AV.str x_1.2] ∧ x_1.1.length < 4611686018427387904 ∧ x_1.2.length < 4611686018427387904) fun n_1 => .all (fun (r : List UInt8 × Int) => r = j7 n_1.1 n_1.2) fun n_2 => .leaf (.ret [.str n_2.1, .int .i64 n_2.2] [.box [.str n, .str m, .str d, .str c, .int .i64 e]]))) (by kernel_rfl) ?_
 simp only [Tree.holds, zd]
 refine ⟨fun h => ?_, fun h => ⟨(x, y), ⟨by simp, h1, h2⟩, ⟨_, rfl⟩, ?_⟩⟩
 ·have h : e ≠ 0 := by simpa using h
  exact fin ([], e) (if_pos h)
 ·have h : e = 0 := by simpa using h
  rintro _ rfl
  exact fin (j7 x y) (if_neg (by simp [h]))
def Pst (a b : List UInt8) : Nat → Pr
 | 0 => ⟨[], [], [], [], 0⟩
 | 1 => if errR a ≠ 0 then ⟨[], [], [], [], errR a⟩ else ⟨numR a, [], denR a, [], 0⟩
 | _ => qR a b
def SBq (a b : List UInt8) (i : Nat) : KV := [(5, .ptr 0 0), (12, .agg [.str a, .str b]), (13, .int .i64 (i : Int))]
noncomputable def GBq : Nat → Option Ctr := fun f => if f = 101 then some (Y6) else none
theorem Q5 : ∀ g c, GBq g = some c → zb Tryd.prog g c := okIf Yh (zn)
theorem Yt : zb Tryd.prog 93 UA := by
 refine zB (fn := Tryd.f93) (c := Tryd.f93.body.getD .skip) rfl rfl rfl (fun h => by cases h) fun p hp O w0 σ0 Q hl0 hq => ?_
 obtain rfl : σ0 = [] := List.length_eq_zero_iff.1 hl0
 obtain ⟨a, b⟩ := p
 obtain ⟨h1, h2⟩ := hp
 replace hq := hq _ rfl
 simp only at h1 h2 hq
 refine zc.run hmix Q5 [5, 12, 13] 400 (T := .leaf (.loop (Prod.fst (lps K93 0)) (Prod.snd (lps K93 0)) [(5, .ptr 0 0), (12, .agg [.str a, .str b]), (13, .int .i64 0)] [.box [.str (Array.toList #[]), .str (Array.toList #[]), .str (Array.toList #[]), .str (Array.toList #[]), .int .i64 0]])) (by kernel_rfl) ?_
 simp only [Tree.holds, zd]
 refine zc.loop (ι := {i : Nat // i ≤ 2}) (fun i => SBq a b i.1) (fun i => [(Pst a b i.1).box]) (fun i => 2 - i.1) ⟨0, Nat.zero_le _⟩ 0 ?_ ?_ (by kernel_rfl)
 ·exact ⟨by simp [SBq], by simp [Pst, Pr.box], by kernel_rfl, Nat.zero_le _⟩
 rintro ⟨i, hil⟩
 match i, hil with
 | 0, _ =>
  refine zc.run hmix Q5 [5, 12, 13] 400 (T := .ite true (.side ((0 : Int) ≤ 0 ∧ (0 : Int) < 2 ∧ 1 ≤ List.length [AV.str a, AV.str b]) (.ite true (.ex (fun (x : List UInt8) => eqL [AV.str a] [AV.str x] ∧ x.length < 4611686018427387904) fun n => .all (fun (r : List UInt8 × List UInt8 × Int) => r = if errR n = 0 then (numR n, denR n, (0 : Int)) else ([], [], errR n)) fun n => .side ((0 : Int) ≤ 0 ∧ (0 : Int) < 2) (.side ((0 : Int) ≤ 0 ∧ (0 : Int) < 2) (.side (inR .i64 (1 : Int)) (.leaf (.back 0 [(5, .ptr 0 0), (12, .agg [.str a, .str b]), (13, .int .i64 1)] [.box [.str n.1, .str [], .str (n.2.1), .str [], .int .i64 (n.2.2)]]))))) (.side (inR .i64 (1 : Int)) (.leaf (.back 0 [(5, .ptr 0 0), (12, .agg [.str a, .str b]), (13, .int .i64 1)] [.box [.str [], .str [], .str [], .str [], .int .i64 0]]))))) (.leaf (.ret [.ptr 0 0] [.box [.str [], .str [], .str [], .str [], .int .i64 0]]))) (by kernel_rfl) ?_
  simp only [Tree.holds, zd, inR, lo, hi, Int.toNat_natCast]
  refine ⟨fun _ => ⟨by simp, fun _ => ⟨fun _ => ⟨a, ⟨by simp, h1⟩, ⟨_, rfl⟩, ?_⟩, fun h => (by cases h)⟩⟩, fun h => (by cases h)⟩
  intro r hr
  refine ⟨by decide, fun _ => ⟨by decide, fun _ => ⟨by decide, fun _ => ?_⟩⟩⟩
  rw [if_pos trivial]
  refine ⟨⟨1, by decide⟩, by decide, by simp [SBq], ?_, by kernel_rfl, Nat.zero_le _⟩
  have e : Pst a b 1 = ⟨r.1, [], r.2.1, [], r.2.2⟩ := by
   rw [hr]
   by_cases h : errR a = 0
   ·simp [Pst, h]
   ·simp [Pst, h]
  show eqH _ [(Pst a b 1).box]
  rw [e]
  simp [Pr.box]
 | 1, _ =>
  obtain ⟨⟨n, m, d, c, e⟩, hp⟩ : ∃ p, Pst a b 1 = p := ⟨_, rfl⟩
  simp only [hp]
  refine zc.run hmix Q5 [5, 12, 13] 400 (T := .ite true (.side ((0 : Int) ≤ 1 ∧ (1 : Int) < 2 ∧ 2 ≤ List.length [AV.str a, AV.str b]) (.ite (decide (e = 0)) (.ex (fun (x : List UInt8) => eqL [AV.str b] [AV.str x] ∧ x.length < 4611686018427387904) fun n_1 => .all (fun (r : List UInt8 × List UInt8 × Int) => r = if errR n_1 = 0 then (numR n_1, denR n_1, (0 : Int)) else ([], [], errR n_1)) fun n_2 => .side ((0 : Int) ≤ 1 ∧ (1 : Int) < 2) (.side ((0 : Int) ≤ 1 ∧ (1 : Int) < 2) (.side (inR .i64 (2 : Int)) (.leaf (.back 0 [(5, .ptr 0 0), (12, .agg [.str a, .str b]), (13, .int .i64 2)] [.box [.str n, .str n_2.1, .str d, .str (n_2.2.1), .int .i64 (n_2.2.2)]]))))) (.side (inR .i64 (2 : Int)) (.leaf (.back 0 [(5, .ptr 0 0), (12, .agg [.str a, .str b]), (13, .int .i64 2)] [.box [.str n, .str m, .str d, .str c, .int .i64 e]]))))) (.leaf (.ret [.ptr 0 0] [.box [.str n, .str m, .str d, .str c, .int .i64 e]]))) (by kernel_rfl) ?_
  simp only [Tree.holds, zd, inR, lo, hi, Int.toNat_natCast]
  refine ⟨fun _ => ⟨by simp, fun _ => ⟨fun h => ⟨b, ⟨by simp, h2⟩, ⟨_, rfl⟩, ?_⟩, fun h => ⟨by decide, fun _ => ?_⟩⟩⟩, fun h => (by cases h)⟩
  ·have h : e = 0 := by simpa using h
   intro r hr
   refine ⟨by decide, fun _ => ⟨by decide, fun _ => ⟨by decide, fun _ => ?_⟩⟩⟩
   rw [if_pos trivial]
   refine ⟨⟨2, by decide⟩, by decide, by simp [SBq], ?_, by kernel_rfl, Nat.zero_le _⟩
   have e2 : Pst a b 2 = ⟨n, r.1, d, r.2.1, r.2.2⟩ := by
    rw [hr]
    by_cases ha : errR a = 0
    ·simp only [Pst, ha] at hp
     simp at hp
     obtain ⟨rfl, rfl, rfl, rfl, _⟩ := hp
     by_cases hb : errR b = 0
     ·simp [Pst, qR, ha, hb]
     ·simp [Pst, qR, ha, hb]
    ·simp only [Pst] at hp
     rw [if_pos ha] at hp
     cases hp
     exact absurd h ha
   show eqH _ [(Pst a b 2).box]
   rw [e2]
   simp [Pr.box]
  ·have h : e ≠ 0 := by simpa using h
   rw [if_pos trivial]
   refine ⟨⟨2, by decide⟩, by decide, by simp [SBq], ?_, by kernel_rfl, Nat.zero_le _⟩
   have e2 : Pst a b 2 = ⟨n, m, d, c, e⟩ := by
    by_cases ha : errR a = 0
    ·simp only [Pst, ha] at hp
     simp at hp
     exact absurd hp.2.2.2.2.symm h
    ·rw [← hp]
     simp only [Pst, qR]
     rw [if_pos ha, if_pos ha]
   show eqH _ [(Pst a b 2).box]
   rw [e2]
   simp [Pr.box]
 | 2, _ =>
  obtain ⟨⟨n, m, d, c, e⟩, hp⟩ : ∃ p, Pst a b 2 = p := ⟨_, rfl⟩
  simp only [hp]
  refine zc.run hmix Q5 [5, 12, 13] 400 (T := .ite false (.side ((0 : Int) ≤ 2 ∧ (2 : Int) < 2 ∧ 3 ≤ List.length [AV.str a, AV.str b]) .fail) (.leaf (.ret [.ptr 0 0] [.box [.str n, .str m, .str d, .str c, .int .i64 e]]))) (by kernel_rfl) ?_
  simp only [Tree.holds, zd, inR, lo, hi, Int.toNat_natCast]
  refine ⟨fun h => (by cases h), fun _ => ?_⟩
  have hp : qR a b = ⟨n, m, d, c, e⟩ := hp
  rw [hp] at hq
  refine RetR.out1 0 (by show 0 < 1; decide) hq (fun h => by cases h) ?_ ?_
  ·exact ⟨rfl, rfl⟩
  ·exact ⟨rfl, rfl, rfl, rfl, ⟨rfl, rfl⟩, trivial⟩
end Go.Proofs.Tryd
end

/- Rationals: sums, differences, products, comparisons. -/
section
set_option maxRecDepth 100000
open Go Go.Sx Go.Proofs Go.Nov
namespace Go.Proofs.Tryd
attribute [local simp] eqKV eqA eqA0 eqH eqB eqL eqL0
theorem wV (a b : List UInt8) : ((qR a b).e ≠ 0 ∧ jw a b = (qR a b).e) ∨ ((qR a b).e = 0 ∧ errR a = 0 ∧ errR b = 0 ∧ (qR a b).n = numR a ∧ (qR a b).m = numR b ∧ (qR a b).d = denR a ∧ (qR a b).c = denR b) := by
 unfold qR
 by_cases ha : errR a = 0
 ·rw [if_neg (by rw [ha]; simp)]
  by_cases hb : errR b = 0
  ·rw [if_neg (by rw [hb]; simp)]
   exact .inr ⟨rfl, ha, hb, rfl, rfl, rfl, rfl⟩
  ·rw [if_pos hb]
   exact .inl ⟨hb, by unfold jw; rw [if_pos ha]⟩
 ·rw [if_pos ha]
  exact .inl ⟨ha, by unfold jw; rw [if_neg ha]⟩
theorem k8 (a b : List UInt8) : (qR a b).n.length ≤ a.length ∧ (qR a b).m.length ≤ b.length ∧ (qR a b).d.length ≤ a.length + 1 ∧ (qR a b).c.length ≤ b.length + 1 := by
 have h1 := Jo a
 have h2 := Jo b
 have h3 := W0 a
 have h4 := W0 b
 unfold qR
 split
 ·simp
 ·split
  ·simp; omega
  ·simp only; omega
theorem kx_l (x y : List UInt8) : eqL [.str x, .str y, .ptr 0 0, .ptr 2 0] [.str x, .str y, .ptr 0 0, .ptr 2 0] := ⟨rfl, rfl, ⟨rfl, rfl⟩, ⟨rfl, rfl⟩, trivial⟩
theorem kx_b (p : Pr) : eqH [.box [.str p.n, .str p.m, .str p.d, .str p.c, .int .i64 p.e]] [.box [.str p.n, .str p.m, .str p.d, .str p.c, .int .i64 p.e]] := ⟨⟨rfl, rfl, rfl, rfl, ⟨rfl, rfl⟩, trivial⟩, trivial⟩
theorem kx_h (p : Pr) (f : Nat) : eqH [.box [.ptr 1 0], .box [.str p.n, .str p.m, .str p.d, .str p.c, .int .i64 p.e], .box [.fn f [] []]] [.box [.ptr 1 0], .box [.str p.n, .str p.m, .str p.d, .str p.c, .int .i64 p.e], .box [.fn f [] []]] := ⟨⟨⟨rfl, rfl⟩, trivial⟩, (kx_b p).1, ⟨rfl, trivial⟩, trivial⟩
theorem kx_k (f : Nat) : eqL [.ptr 0 0, .fn f [] []] [.ptr 0 0, .fn f [] []] := ⟨⟨rfl, rfl⟩, rfl, trivial⟩
theorem kx_m (x y : List UInt8) : eqL [.ptr 0 0, .str x, .str y] [.ptr 0 0, .str x, .str y] := ⟨⟨rfl, rfl⟩, rfl, rfl, trivial⟩
theorem qe (p : Pr) (o : QOp) (x y : List UInt8) {r : List UInt8 × Int} (h : r = if p.e ≠ 0 then ([], p.e) else o.op x y) : r.1.length ≤ 1001 := by
 rw [h]
 refine zb9 ?_
 cases o
 ·exact Uy x y
 ·exact Uo x y
 ·exact Uw x y
noncomputable def GQA : Nat → Option Ctr := fun f => if f = 93 then some (UA) else if f = 94 then some (Un) else if f = 102 then some (WL) else if f = 137 then some (XM) else if f = 96 then some (zcb) else none
theorem QR : ∀ g c, GQA g = some c → zb Tryd.prog g c := okIf Yt (okIf UE (okIf YC (okIf zaw (okIf zbf (zn)))))
def Kv : Ctr := ctrP true (fun p : List UInt8 × List UInt8 => [.str p.1, .str p.2]) (fun p => p.1.length < 2 ^ 61 ∧ p.2.length < 2 ^ 61) (fun p r => r = addR p.1 p.2) (fun _ r => (.tup [.str r.1, .int .i64 r.2], []))
def Kz : Ctr := ctrP true (fun p : List UInt8 × List UInt8 => [.str p.1, .str p.2]) (fun p => p.1.length < 2 ^ 61 ∧ p.2.length < 2 ^ 61) (fun p r => r = subR p.1 p.2) (fun _ r => (.tup [.str r.1, .int .i64 r.2], []))
def VW : Ctr := ctrP true (fun p : List UInt8 × List UInt8 => [.str p.1, .str p.2]) (fun p => p.1.length < 2 ^ 61 ∧ p.2.length < 2 ^ 61) (fun p r => r = mulR p.1 p.2) (fun _ r => (.tup [.str r.1, .int .i64 r.2], []))
def zd5 : Ctr := ctrP true (fun p : List UInt8 × List UInt8 => [.str p.1, .str p.2]) (fun p => p.1.length < 2 ^ 61 ∧ p.2.length < 2 ^ 61) (fun p r => r = cmpR p.1 p.2) (fun _ r => (.tup [.int .i64 r.1, .int .i64 r.2], []))
theorem Jb : zb Tryd.prog 133 Kv := by
 refine ze (fn := Tryd.f133) (c := Tryd.f133.body.getD .skip) rfl rfl rfl fun p hp O w0 Q hq => ?_
 obtain ⟨a, b⟩ := p
 obtain ⟨h1, h2⟩ := hp
 replace hq := hq _ rfl
 simp only at h1 h2 hq
 refine zc.run hmix QR [] 400 (T := .ex (fun (x : List UInt8 × List UInt8) => eqL [AV.str a, AV.str b] [AV.str x.1, AV.str x.2] ∧ eqH [] [] ∧ 0 = 0 ∧ x.1.length < 4611686018427387904 ∧ x.2.length < 4611686018427387904) fun n => .all (fun (r : Pr) => r = qR n.1 n.2) fun n => .ex (fun (x : Pr × QOp) => eqL [AV.ptr 0 0, AV.fn 95 [] []] [AV.ptr 0 0, AV.fn (QOp.fn x.2) [] []] ∧ eqH [.box [AV.str n.n, AV.str n.m, AV.str n.d, AV.str n.c, AV.int .i64 n.e]] [.box [AV.str x.1.n, AV.str x.1.m, AV.str x.1.d, AV.str x.1.c, AV.int .i64 x.1.e]] ∧ 1 = 1 ∧ True) fun n => .all (fun (x : Unit) => True) fun n_1 => .ex (fun (x : Pr × QOp) => eqL [AV.ptr 0 0, AV.fn 136 [] []] [AV.ptr 0 0, AV.fn (QOp.fn x.2) [] []] ∧ eqH [.box [AV.str n.1.n, AV.str n.1.m, AV.str n.1.d, AV.str n.1.c, AV.int .i64 n.1.e]] [.box [AV.str x.1.n, AV.str x.1.m, AV.str x.1.d, AV.str x.1.c, AV.int .i64 x.1.e]] ∧ 1 = 1 ∧ True) fun n_2 => .all (fun (x : Unit) => True) fun n_3 => .side ((0 : Int) ≤ 0 ∧ (0 : Int) < 2) (.side ((0 : Int) ≤ 1 ∧ (1 : Int) < 2) (.side ((0 : Int) ≤ 1 ∧ (1 : Int) < 2) (.side ((0 : Int) ≤ 0 ∧ (0 : Int) < 2) (.side ((0 : Int) ≤ 0 ∧ (0 : Int) < 2) (.side ((0 : Int) ≤ 1 ∧ (1 : Int) < 2) (.ex (fun (x : KX) => eqL [AV.str n_2.1.n, AV.str n_2.1.c, AV.ptr 0 0, AV.ptr 2 0] [AV.str x.x, AV.str x.y, AV.ptr 0 0, AV.ptr 2 0] ∧ eqH [.box [AV.ptr 1 0], .box [AV.str n_2.1.n, AV.str n_2.1.m, AV.str n_2.1.d, AV.str n_2.1.c, AV.int .i64 n_2.1.e], .box [AV.fn (QOp.fn n.2) [] []]] [.box [AV.ptr 1 0], .box [AV.str x.p.n, AV.str x.p.m, AV.str x.p.d, AV.str x.p.c, AV.int .i64 x.p.e], .box [AV.fn (QOp.fn x.o) [] []]] ∧ 3 = 3 ∧ x.x.length < 4611686018427387904 ∧ x.y.length < 4611686018427387904) fun n => .all (fun (r : List UInt8 × Int) => r = if Pr.e n.p ≠ 0 then ([], Pr.e n.p) else QOp.op n.o n.x n.y) fun n_4 => .side (Pr.c (Pr.err n.p n_4.2) = Pr.c n_2.1) (.side (Pr.d (Pr.err n.p n_4.2) = Pr.d n_2.1) (.side (Pr.d (Pr.err n.p n_4.2) = Pr.d n_2.1) (.side (Pr.m (Pr.err n.p n_4.2) = Pr.m n_2.1) (.ex (fun (x : KX) => eqL [AV.str n_2.1.m, AV.str n_2.1.d, AV.ptr 0 0, AV.ptr 2 0] [AV.str x.x, AV.str x.y, AV.ptr 0 0, AV.ptr 2 0] ∧ eqH [.box [AV.ptr 1 0], .box [AV.str (Pr.n (Pr.err n.p n_4.2)), AV.str (Pr.m (Pr.err n.p n_4.2)), AV.str (Pr.d (Pr.err n.p n_4.2)), AV.str (Pr.c (Pr.err n.p n_4.2)), AV.int .i64 (Pr.e (Pr.err n.p n_4.2))], .box [AV.fn (QOp.fn n.o) [] []]] [.box [AV.ptr 1 0], .box [AV.str x.p.n, AV.str x.p.m, AV.str x.p.d, AV.str x.p.c, AV.int .i64 x.p.e], .box [AV.fn (QOp.fn x.o) [] []]] ∧ 3 = 3 ∧ x.x.length < 4611686018427387904 ∧ x.y.length < 4611686018427387904) fun n => .all (fun (r : List UInt8 × Int) => r = if Pr.e n.p ≠ 0 then ([], Pr.e n.p) else QOp.op n.o n.x n.y) fun n_5 => .side (Pr.c (Pr.err n.p n_5.2) = Pr.c n_2.1) (.side (Pr.d (Pr.err n.p n_5.2) = Pr.d n_2.1) (.ex (fun (x : KX) => eqL [AV.str n_4.1, AV.str n_5.1, AV.ptr 0 0, AV.ptr 2 0] [AV.str x.x, AV.str x.y, AV.ptr 0 0, AV.ptr 2 0] ∧ eqH [.box [AV.ptr 1 0], .box [AV.str (Pr.n (Pr.err n.p n_5.2)), AV.str (Pr.m (Pr.err n.p n_5.2)), AV.str (Pr.d (Pr.err n.p n_5.2)), AV.str (Pr.c (Pr.err n.p n_5.2)), AV.int .i64 (Pr.e (Pr.err n.p n_5.2))], .box [AV.fn (QOp.fn n_2.2) [] []]] [.box [AV.ptr 1 0], .box [AV.str x.p.n, AV.str x.p.m, AV.str x.p.d, AV.str x.p.c, AV.int .i64 x.p.e], .box [AV.fn (QOp.fn x.o) [] []]] ∧ 3 = 3 ∧ x.x.length < 4611686018427387904 ∧ x.y.length < 4611686018427387904) fun n_6 => .all (fun (r : List UInt8 × Int) => r = if Pr.e n_6.p ≠ 0 then ([], Pr.e n_6.p) else QOp.op n_6.o n_6.x n_6.y) fun n_7 => .side (Pr.c (Pr.err n_6.p n_7.2) = Pr.c n_2.1) (.side (Pr.d (Pr.err n_6.p n_7.2) = Pr.d n_2.1) (.ex (fun (x : KX) => eqL [AV.str n_2.1.d, AV.str n_2.1.c, AV.ptr 0 0, AV.ptr 2 0] [AV.str x.x, AV.str x.y, AV.ptr 0 0, AV.ptr 2 0] ∧ eqH [.box [AV.ptr 1 0], .box [AV.str (Pr.n (Pr.err n_6.p n_7.2)), AV.str (Pr.m (Pr.err n_6.p n_7.2)), AV.str (Pr.d (Pr.err n_6.p n_7.2)), AV.str (Pr.c (Pr.err n_6.p n_7.2)), AV.int .i64 (Pr.e (Pr.err n_6.p n_7.2))], .box [AV.fn (QOp.fn n.o) [] []]] [.box [AV.ptr 1 0], .box [AV.str x.p.n, AV.str x.p.m, AV.str x.p.d, AV.str x.p.c, AV.int .i64 x.p.e], .box [AV.fn (QOp.fn x.o) [] []]] ∧ 3 = 3 ∧ x.x.length < 4611686018427387904 ∧ x.y.length < 4611686018427387904) fun n => .all (fun (r : List UInt8 × Int) => r = if Pr.e n.p ≠ 0 then ([], Pr.e n.p) else QOp.op n.o n.x n.y) fun n_8 => .ex (fun (x : Pr × List UInt8 × List UInt8) => eqL [AV.ptr 0 0, AV.str n_7.1, AV.str n_8.1] [AV.ptr 0 0, AV.str (x.2.1), AV.str (x.2.2)] ∧ eqH [.box [AV.str (Pr.n (Pr.err n.p n_8.2)), AV.str (Pr.m (Pr.err n.p n_8.2)), AV.str (Pr.d (Pr.err n.p n_8.2)), AV.str (Pr.c (Pr.err n.p n_8.2)), AV.int .i64 (Pr.e (Pr.err n.p n_8.2))]] [.box [AV.str x.1.n, AV.str x.1.m, AV.str x.1.d, AV.str x.1.c, AV.int .i64 x.1.e]] ∧ 1 = 1 ∧ List.length (x.2.1) < 4611686018427387904 ∧ List.length (x.2.2) < 4611686018427387904) fun n_9 => .all (fun (r : List UInt8 × Int) => r = if Pr.e n_9.1 ≠ 0 then ([], Pr.e n_9.1) else j7 (n_9.2.1) (n_9.2.2)) fun n_10 => .leaf (.ret [.str n_10.1, .int .i64 n_10.2] [.box [.str n_9.1.n, .str n_9.1.m, .str n_9.1.d, .str n_9.1.c, .int .i64 n_9.1.e], .box [.ptr 0 0], .box [.fn (QOp.fn n.o) [] []], .box [.ptr 0 0], .box [.fn (QOp.fn n_6.o) [] []]])))))))))))))))) (by kernel_rfl) ?_
 simp only [Tree.holds, zd]
 refine ⟨(a, b), ⟨⟨rfl, rfl, trivial⟩, trivial, by trivial, by show a.length < _; omega, by show b.length < _; omega⟩, ⟨_, rfl⟩, ?_⟩
 intro p hp
 have hc := wV a b
 obtain ⟨l1, l2, l3, l4⟩ := k8 a b
 rw [← hp] at hc l1 l2 l3 l4
 refine ⟨(p, .mul), ⟨kx_k _, kx_b p, by trivial, trivial⟩, ⟨(), trivial⟩, ?_⟩
 intro _ _
 refine ⟨(p, .add), ⟨kx_k _, kx_b p, by trivial, trivial⟩, ⟨(), trivial⟩, ?_⟩
 intro _ _
 iterate 6 refine ⟨by decide, fun _ => ?_⟩
 refine ⟨⟨p, .mul, p.n, p.c⟩, ⟨kx_l _ _, kx_h (p) _, by trivial, by show (p.n).length < _; omega, by show (p.c).length < _; omega⟩, ⟨_, rfl⟩, ?_⟩
 intro r1 hr1
 have kr1 := qe _ _ _ _ hr1
 iterate 4 refine ⟨rfl, fun _ => ?_⟩
 refine ⟨⟨p.err r1.2, .mul, p.m, p.d⟩, ⟨kx_l _ _, kx_h (p.err r1.2) _, by trivial, by show (p.m).length < _; omega, by show (p.d).length < _; omega⟩, ⟨_, rfl⟩, ?_⟩
 intro r2 hr2
 have kr2 := qe _ _ _ _ hr2
 iterate 2 refine ⟨rfl, fun _ => ?_⟩
 refine ⟨⟨(p.err r1.2).err r2.2, .add, r1.1, r2.1⟩, ⟨kx_l _ _, kx_h ((p.err r1.2).err r2.2) _, by trivial, by show (r1.1).length < _; omega, by show (r2.1).length < _; omega⟩, ⟨_, rfl⟩, ?_⟩
 intro r3 hr3
 have kr3 := qe _ _ _ _ hr3
 iterate 2 refine ⟨rfl, fun _ => ?_⟩
 refine ⟨⟨((p.err r1.2).err r2.2).err r3.2, .mul, p.d, p.c⟩, ⟨kx_l _ _, kx_h (((p.err r1.2).err r2.2).err r3.2) _, by trivial, by show (p.d).length < _; omega, by show (p.c).length < _; omega⟩, ⟨_, rfl⟩, ?_⟩
 intro r4 hr4
 have kr4 := qe _ _ _ _ hr4
 refine ⟨((((p.err r1.2).err r2.2).err r3.2).err r4.2, r3.1, r4.1), ⟨kx_m _ _, kx_b _, by trivial, by show (r3.1).length < _; omega, by show (r4.1).length < _; omega⟩, ⟨_, rfl⟩, ?_⟩
 intro r5 hr5
 have hfin := y4 hc (fun {s t} => Yw (s := s) (t := t)) hr1 hr2 hr3 hr4 hr5
 have e : r5 = addR a b := hfin
 rw [← e] at hq
 exact RetR.scal hq rfl (by simp [resV])
theorem Jd : zb Tryd.prog 134 Kz := by
 refine ze (fn := Tryd.f134) (c := Tryd.f134.body.getD .skip) rfl rfl rfl fun p hp O w0 Q hq => ?_
 obtain ⟨a, b⟩ := p
 obtain ⟨h1, h2⟩ := hp
 replace hq := hq _ rfl
 simp only at h1 h2 hq
 refine zc.run hmix QR [] 400 (T := .ex (fun (x : List UInt8 × List UInt8) => eqL [AV.str a, AV.str b] [AV.str x.1, AV.str x.2] ∧ eqH [] [] ∧ 0 = 0 ∧ x.1.length < 4611686018427387904 ∧ x.2.length < 4611686018427387904) fun n => .all (fun (r : Pr) => r = qR n.1 n.2) fun n => .ex (fun (x : Pr × QOp) => eqL [AV.ptr 0 0, AV.fn 95 [] []] [AV.ptr 0 0, AV.fn (QOp.fn x.2) [] []] ∧ eqH [.box [AV.str n.n, AV.str n.m, AV.str n.d, AV.str n.c, AV.int .i64 n.e]] [.box [AV.str x.1.n, AV.str x.1.m, AV.str x.1.d, AV.str x.1.c, AV.int .i64 x.1.e]] ∧ 1 = 1 ∧ True) fun n => .all (fun (x : Unit) => True) fun n_1 => .ex (fun (x : Pr × QOp) => eqL [AV.ptr 0 0, AV.fn 138 [] []] [AV.ptr 0 0, AV.fn (QOp.fn x.2) [] []] ∧ eqH [.box [AV.str n.1.n, AV.str n.1.m, AV.str n.1.d, AV.str n.1.c, AV.int .i64 n.1.e]] [.box [AV.str x.1.n, AV.str x.1.m, AV.str x.1.d, AV.str x.1.c, AV.int .i64 x.1.e]] ∧ 1 = 1 ∧ True) fun n_2 => .all (fun (x : Unit) => True) fun n_3 => .side ((0 : Int) ≤ 0 ∧ (0 : Int) < 2) (.side ((0 : Int) ≤ 1 ∧ (1 : Int) < 2) (.side ((0 : Int) ≤ 1 ∧ (1 : Int) < 2) (.side ((0 : Int) ≤ 0 ∧ (0 : Int) < 2) (.side ((0 : Int) ≤ 0 ∧ (0 : Int) < 2) (.side ((0 : Int) ≤ 1 ∧ (1 : Int) < 2) (.ex (fun (x : KX) => eqL [AV.str n_2.1.n, AV.str n_2.1.c, AV.ptr 0 0, AV.ptr 2 0] [AV.str x.x, AV.str x.y, AV.ptr 0 0, AV.ptr 2 0] ∧ eqH [.box [AV.ptr 1 0], .box [AV.str n_2.1.n, AV.str n_2.1.m, AV.str n_2.1.d, AV.str n_2.1.c, AV.int .i64 n_2.1.e], .box [AV.fn (QOp.fn n.2) [] []]] [.box [AV.ptr 1 0], .box [AV.str x.p.n, AV.str x.p.m, AV.str x.p.d, AV.str x.p.c, AV.int .i64 x.p.e], .box [AV.fn (QOp.fn x.o) [] []]] ∧ 3 = 3 ∧ x.x.length < 4611686018427387904 ∧ x.y.length < 4611686018427387904) fun n => .all (fun (r : List UInt8 × Int) => r = if Pr.e n.p ≠ 0 then ([], Pr.e n.p) else QOp.op n.o n.x n.y) fun n_4 => .side (Pr.c (Pr.err n.p n_4.2) = Pr.c n_2.1) (.side (Pr.d (Pr.err n.p n_4.2) = Pr.d n_2.1) (.side (Pr.d (Pr.err n.p n_4.2) = Pr.d n_2.1) (.side (Pr.m (Pr.err n.p n_4.2) = Pr.m n_2.1) (.ex (fun (x : KX) => eqL [AV.str n_2.1.m, AV.str n_2.1.d, AV.ptr 0 0, AV.ptr 2 0] [AV.str x.x, AV.str x.y, AV.ptr 0 0, AV.ptr 2 0] ∧ eqH [.box [AV.ptr 1 0], .box [AV.str (Pr.n (Pr.err n.p n_4.2)), AV.str (Pr.m (Pr.err n.p n_4.2)), AV.str (Pr.d (Pr.err n.p n_4.2)), AV.str (Pr.c (Pr.err n.p n_4.2)), AV.int .i64 (Pr.e (Pr.err n.p n_4.2))], .box [AV.fn (QOp.fn n.o) [] []]] [.box [AV.ptr 1 0], .box [AV.str x.p.n, AV.str x.p.m, AV.str x.p.d, AV.str x.p.c, AV.int .i64 x.p.e], .box [AV.fn (QOp.fn x.o) [] []]] ∧ 3 = 3 ∧ x.x.length < 4611686018427387904 ∧ x.y.length < 4611686018427387904) fun n => .all (fun (r : List UInt8 × Int) => r = if Pr.e n.p ≠ 0 then ([], Pr.e n.p) else QOp.op n.o n.x n.y) fun n_5 => .side (Pr.c (Pr.err n.p n_5.2) = Pr.c n_2.1) (.side (Pr.d (Pr.err n.p n_5.2) = Pr.d n_2.1) (.ex (fun (x : KX) => eqL [AV.str n_4.1, AV.str n_5.1, AV.ptr 0 0, AV.ptr 2 0] [AV.str x.x, AV.str x.y, AV.ptr 0 0, AV.ptr 2 0] ∧ eqH [.box [AV.ptr 1 0], .box [AV.str (Pr.n (Pr.err n.p n_5.2)), AV.str (Pr.m (Pr.err n.p n_5.2)), AV.str (Pr.d (Pr.err n.p n_5.2)), AV.str (Pr.c (Pr.err n.p n_5.2)), AV.int .i64 (Pr.e (Pr.err n.p n_5.2))], .box [AV.fn (QOp.fn n_2.2) [] []]] [.box [AV.ptr 1 0], .box [AV.str x.p.n, AV.str x.p.m, AV.str x.p.d, AV.str x.p.c, AV.int .i64 x.p.e], .box [AV.fn (QOp.fn x.o) [] []]] ∧ 3 = 3 ∧ x.x.length < 4611686018427387904 ∧ x.y.length < 4611686018427387904) fun n_6 => .all (fun (r : List UInt8 × Int) => r = if Pr.e n_6.p ≠ 0 then ([], Pr.e n_6.p) else QOp.op n_6.o n_6.x n_6.y) fun n_7 => .side (Pr.c (Pr.err n_6.p n_7.2) = Pr.c n_2.1) (.side (Pr.d (Pr.err n_6.p n_7.2) = Pr.d n_2.1) (.ex (fun (x : KX) => eqL [AV.str n_2.1.d, AV.str n_2.1.c, AV.ptr 0 0, AV.ptr 2 0] [AV.str x.x, AV.str x.y, AV.ptr 0 0, AV.ptr 2 0] ∧ eqH [.box [AV.ptr 1 0], .box [AV.str (Pr.n (Pr.err n_6.p n_7.2)), AV.str (Pr.m (Pr.err n_6.p n_7.2)), AV.str (Pr.d (Pr.err n_6.p n_7.2)), AV.str (Pr.c (Pr.err n_6.p n_7.2)), AV.int .i64 (Pr.e (Pr.err n_6.p n_7.2))], .box [AV.fn (QOp.fn n.o) [] []]] [.box [AV.ptr 1 0], .box [AV.str x.p.n, AV.str x.p.m, AV.str x.p.d, AV.str x.p.c, AV.int .i64 x.p.e], .box [AV.fn (QOp.fn x.o) [] []]] ∧ 3 = 3 ∧ x.x.length < 4611686018427387904 ∧ x.y.length < 4611686018427387904) fun n => .all (fun (r : List UInt8 × Int) => r = if Pr.e n.p ≠ 0 then ([], Pr.e n.p) else QOp.op n.o n.x n.y) fun n_8 => .ex (fun (x : Pr × List UInt8 × List UInt8) => eqL [AV.ptr 0 0, AV.str n_7.1, AV.str n_8.1] [AV.ptr 0 0, AV.str (x.2.1), AV.str (x.2.2)] ∧ eqH [.box [AV.str (Pr.n (Pr.err n.p n_8.2)), AV.str (Pr.m (Pr.err n.p n_8.2)), AV.str (Pr.d (Pr.err n.p n_8.2)), AV.str (Pr.c (Pr.err n.p n_8.2)), AV.int .i64 (Pr.e (Pr.err n.p n_8.2))]] [.box [AV.str x.1.n, AV.str x.1.m, AV.str x.1.d, AV.str x.1.c, AV.int .i64 x.1.e]] ∧ 1 = 1 ∧ List.length (x.2.1) < 4611686018427387904 ∧ List.length (x.2.2) < 4611686018427387904) fun n_9 => .all (fun (r : List UInt8 × Int) => r = if Pr.e n_9.1 ≠ 0 then ([], Pr.e n_9.1) else j7 (n_9.2.1) (n_9.2.2)) fun n_10 => .leaf (.ret [.str n_10.1, .int .i64 n_10.2] [.box [.str n_9.1.n, .str n_9.1.m, .str n_9.1.d, .str n_9.1.c, .int .i64 n_9.1.e], .box [.ptr 0 0], .box [.fn (QOp.fn n.o) [] []], .box [.ptr 0 0], .box [.fn (QOp.fn n_6.o) [] []]])))))))))))))))) (by kernel_rfl) ?_
 simp only [Tree.holds, zd]
 refine ⟨(a, b), ⟨⟨rfl, rfl, trivial⟩, trivial, by trivial, by show a.length < _; omega, by show b.length < _; omega⟩, ⟨_, rfl⟩, ?_⟩
 intro p hp
 have hc := wV a b
 obtain ⟨l1, l2, l3, l4⟩ := k8 a b
 rw [← hp] at hc l1 l2 l3 l4
 refine ⟨(p, .mul), ⟨kx_k _, kx_b p, by trivial, trivial⟩, ⟨(), trivial⟩, ?_⟩
 intro _ _
 refine ⟨(p, .sub), ⟨kx_k _, kx_b p, by trivial, trivial⟩, ⟨(), trivial⟩, ?_⟩
 intro _ _
 iterate 6 refine ⟨by decide, fun _ => ?_⟩
 refine ⟨⟨p, .mul, p.n, p.c⟩, ⟨kx_l _ _, kx_h (p) _, by trivial, by show (p.n).length < _; omega, by show (p.c).length < _; omega⟩, ⟨_, rfl⟩, ?_⟩
 intro r1 hr1
 have kr1 := qe _ _ _ _ hr1
 iterate 4 refine ⟨rfl, fun _ => ?_⟩
 refine ⟨⟨p.err r1.2, .mul, p.m, p.d⟩, ⟨kx_l _ _, kx_h (p.err r1.2) _, by trivial, by show (p.m).length < _; omega, by show (p.d).length < _; omega⟩, ⟨_, rfl⟩, ?_⟩
 intro r2 hr2
 have kr2 := qe _ _ _ _ hr2
 iterate 2 refine ⟨rfl, fun _ => ?_⟩
 refine ⟨⟨(p.err r1.2).err r2.2, .sub, r1.1, r2.1⟩, ⟨kx_l _ _, kx_h ((p.err r1.2).err r2.2) _, by trivial, by show (r1.1).length < _; omega, by show (r2.1).length < _; omega⟩, ⟨_, rfl⟩, ?_⟩
 intro r3 hr3
 have kr3 := qe _ _ _ _ hr3
 iterate 2 refine ⟨rfl, fun _ => ?_⟩
 refine ⟨⟨((p.err r1.2).err r2.2).err r3.2, .mul, p.d, p.c⟩, ⟨kx_l _ _, kx_h (((p.err r1.2).err r2.2).err r3.2) _, by trivial, by show (p.d).length < _; omega, by show (p.c).length < _; omega⟩, ⟨_, rfl⟩, ?_⟩
 intro r4 hr4
 have kr4 := qe _ _ _ _ hr4
 refine ⟨((((p.err r1.2).err r2.2).err r3.2).err r4.2, r3.1, r4.1), ⟨kx_m _ _, kx_b _, by trivial, by show (r3.1).length < _; omega, by show (r4.1).length < _; omega⟩, ⟨_, rfl⟩, ?_⟩
 intro r5 hr5
 have hfin := y4 hc (fun {s t} => UX (s := s) (t := t)) hr1 hr2 hr3 hr4 hr5
 have e : r5 = subR a b := hfin
 rw [← e] at hq
 exact RetR.scal hq rfl (by simp [resV])
theorem Qw : zb Tryd.prog 135 VW := by
 refine ze (fn := Tryd.f135) (c := Tryd.f135.body.getD .skip) rfl rfl rfl fun p hp O w0 Q hq => ?_
 obtain ⟨a, b⟩ := p
 obtain ⟨h1, h2⟩ := hp
 replace hq := hq _ rfl
 simp only at h1 h2 hq
 refine zc.run hmix QR [] 400 (T := .ex (fun (x : List UInt8 × List UInt8) => eqL [AV.str a, AV.str b] [AV.str x.1, AV.str x.2] ∧ eqH [] [] ∧ 0 = 0 ∧ x.1.length < 4611686018427387904 ∧ x.2.length < 4611686018427387904) fun n => .all (fun (r : Pr) => r = qR n.1 n.2) fun n => .ex (fun (x : Pr × QOp) => eqL [AV.ptr 0 0, AV.fn 95 [] []] [AV.ptr 0 0, AV.fn (QOp.fn x.2) [] []] ∧ eqH [.box [AV.str n.n, AV.str n.m, AV.str n.d, AV.str n.c, AV.int .i64 n.e]] [.box [AV.str x.1.n, AV.str x.1.m, AV.str x.1.d, AV.str x.1.c, AV.int .i64 x.1.e]] ∧ 1 = 1 ∧ True) fun n => .all (fun (x : Unit) => True) fun n_1 => .side ((0 : Int) ≤ 0 ∧ (0 : Int) < 2) (.side ((0 : Int) ≤ 1 ∧ (1 : Int) < 2) (.side ((0 : Int) ≤ 0 ∧ (0 : Int) < 2) (.side ((0 : Int) ≤ 1 ∧ (1 : Int) < 2) (.ex (fun (x : KX) => eqL [AV.str n.1.n, AV.str n.1.m, AV.ptr 0 0, AV.ptr 2 0] [AV.str x.x, AV.str x.y, AV.ptr 0 0, AV.ptr 2 0] ∧ eqH [.box [AV.ptr 1 0], .box [AV.str n.1.n, AV.str n.1.m, AV.str n.1.d, AV.str n.1.c, AV.int .i64 n.1.e], .box [AV.fn (QOp.fn n.2) [] []]] [.box [AV.ptr 1 0], .box [AV.str x.p.n, AV.str x.p.m, AV.str x.p.d, AV.str x.p.c, AV.int .i64 x.p.e], .box [AV.fn (QOp.fn x.o) [] []]] ∧ 3 = 3 ∧ x.x.length < 4611686018427387904 ∧ x.y.length < 4611686018427387904) fun n_2 => .all (fun (r : List UInt8 × Int) => r = if Pr.e n_2.p ≠ 0 then ([], Pr.e n_2.p) else QOp.op n_2.o n_2.x n_2.y) fun n_3 => .side (Pr.c (Pr.err n_2.p n_3.2) = Pr.c n.1) (.side (Pr.d (Pr.err n_2.p n_3.2) = Pr.d n.1) (.ex (fun (x : KX) => eqL [AV.str n.1.d, AV.str n.1.c, AV.ptr 0 0, AV.ptr 2 0] [AV.str x.x, AV.str x.y, AV.ptr 0 0, AV.ptr 2 0] ∧ eqH [.box [AV.ptr 1 0], .box [AV.str (Pr.n (Pr.err n_2.p n_3.2)), AV.str (Pr.m (Pr.err n_2.p n_3.2)), AV.str (Pr.d (Pr.err n_2.p n_3.2)), AV.str (Pr.c (Pr.err n_2.p n_3.2)), AV.int .i64 (Pr.e (Pr.err n_2.p n_3.2))], .box [AV.fn (QOp.fn n_2.o) [] []]] [.box [AV.ptr 1 0], .box [AV.str x.p.n, AV.str x.p.m, AV.str x.p.d, AV.str x.p.c, AV.int .i64 x.p.e], .box [AV.fn (QOp.fn x.o) [] []]] ∧ 3 = 3 ∧ x.x.length < 4611686018427387904 ∧ x.y.length < 4611686018427387904) fun n => .all (fun (r : List UInt8 × Int) => r = if Pr.e n.p ≠ 0 then ([], Pr.e n.p) else QOp.op n.o n.x n.y) fun n_4 => .ex (fun (x : Pr × List UInt8 × List UInt8) => eqL [AV.ptr 0 0, AV.str n_3.1, AV.str n_4.1] [AV.ptr 0 0, AV.str (x.2.1), AV.str (x.2.2)] ∧ eqH [.box [AV.str (Pr.n (Pr.err n.p n_4.2)), AV.str (Pr.m (Pr.err n.p n_4.2)), AV.str (Pr.d (Pr.err n.p n_4.2)), AV.str (Pr.c (Pr.err n.p n_4.2)), AV.int .i64 (Pr.e (Pr.err n.p n_4.2))]] [.box [AV.str x.1.n, AV.str x.1.m, AV.str x.1.d, AV.str x.1.c, AV.int .i64 x.1.e]] ∧ 1 = 1 ∧ List.length (x.2.1) < 4611686018427387904 ∧ List.length (x.2.2) < 4611686018427387904) fun n_5 => .all (fun (r : List UInt8 × Int) => r = if Pr.e n_5.1 ≠ 0 then ([], Pr.e n_5.1) else j7 (n_5.2.1) (n_5.2.2)) fun n_6 => .leaf (.ret [.str n_6.1, .int .i64 n_6.2] [.box [.str n_5.1.n, .str n_5.1.m, .str n_5.1.d, .str n_5.1.c, .int .i64 n_5.1.e], .box [.ptr 0 0], .box [.fn (QOp.fn n.o) [] []]])))))))) (by kernel_rfl) ?_
 simp only [Tree.holds, zd]
 refine ⟨(a, b), ⟨⟨rfl, rfl, trivial⟩, trivial, by trivial, by show a.length < _; omega, by show b.length < _; omega⟩, ⟨_, rfl⟩, ?_⟩
 intro p hp
 have hc := wV a b
 obtain ⟨l1, l2, l3, l4⟩ := k8 a b
 rw [← hp] at hc l1 l2 l3 l4
 refine ⟨(p, .mul), ⟨kx_k _, kx_b p, by trivial, trivial⟩, ⟨(), trivial⟩, ?_⟩
 intro _ _
 iterate 4 refine ⟨by decide, fun _ => ?_⟩
 refine ⟨⟨p, .mul, p.n, p.m⟩, ⟨kx_l _ _, kx_h (p) _, by trivial, by show (p.n).length < _; omega, by show (p.m).length < _; omega⟩, ⟨_, rfl⟩, ?_⟩
 intro r1 hr1
 have kr1 := qe _ _ _ _ hr1
 iterate 2 refine ⟨rfl, fun _ => ?_⟩
 refine ⟨⟨p.err r1.2, .mul, p.d, p.c⟩, ⟨kx_l _ _, kx_h (p.err r1.2) _, by trivial, by show (p.d).length < _; omega, by show (p.c).length < _; omega⟩, ⟨_, rfl⟩, ?_⟩
 intro r2 hr2
 have kr2 := qe _ _ _ _ hr2
 refine ⟨((p.err r1.2).err r2.2, r1.1, r2.1), ⟨kx_m _ _, kx_b _, by trivial, by show (r1.1).length < _; omega, by show (r2.1).length < _; omega⟩, ⟨_, rfl⟩, ?_⟩
 intro r3 hr3
 have hv : errR a = 0 → errR b = 0 → zp p.n p.m = 0 ∧ zp p.d p.c = 0 := by
  intro ha hb
  obtain ⟨a1, a2, _⟩ := qz ha
  obtain ⟨b1, b2, _⟩ := qz hb
  rcases hc with ⟨g1, g2⟩ | ⟨_, _, _, g1, g2, g3, g4⟩
  ·exact absurd g2 (by unfold jw; rw [if_pos ha, hb]; exact fun h => g1 h.symm)
  ·rw [g1, g2, g3, g4]; exact ⟨zk.2 ⟨a1, b1⟩, zk.2 ⟨a2, b2⟩⟩
 have hfin := X0 hc hr1 hr2 hr3 hv
 have e : r3 = mulR a b := by
  rw [hfin]
  unfold mulR
  rcases hc with ⟨g1, g2⟩ | ⟨_, _, _, g1, g2, g3, g4⟩
  ·rw [if_pos (by rw [g2]; exact g1), if_pos (by rw [g2]; exact g1)]
  ·rw [g1, g2, g3, g4]
 rw [← e] at hq
 exact RetR.scal hq rfl (by simp [resV])
theorem zc5 : zb Tryd.prog 79 zd5 := by
 refine ze (fn := Tryd.f79) (c := Tryd.f79.body.getD .skip) rfl rfl rfl fun p hp O w0 Q hq => ?_
 obtain ⟨a, b⟩ := p
 obtain ⟨h1, h2⟩ := hp
 replace hq := hq _ rfl
 simp only at h1 h2 hq
 refine zc.run hmix QR [] 400 (T := .ex (fun (x : List UInt8 × List UInt8) => eqL [AV.str a, AV.str b] [AV.str x.1, AV.str x.2] ∧ eqH [] [] ∧ 0 = 0 ∧ x.1.length < 4611686018427387904 ∧ x.2.length < 4611686018427387904) fun n => .all (fun (r : Pr) => r = qR n.1 n.2) fun n => .ex (fun (x : Pr × QOp) => eqL [AV.ptr 0 0, AV.fn 95 [] []] [AV.ptr 0 0, AV.fn (QOp.fn x.2) [] []] ∧ eqH [.box [AV.str n.n, AV.str n.m, AV.str n.d, AV.str n.c, AV.int .i64 n.e]] [.box [AV.str x.1.n, AV.str x.1.m, AV.str x.1.d, AV.str x.1.c, AV.int .i64 x.1.e]] ∧ 1 = 1 ∧ True) fun n => .all (fun (x : Unit) => True) fun n_1 => .side ((0 : Int) ≤ 0 ∧ (0 : Int) < 2) (.side ((0 : Int) ≤ 1 ∧ (1 : Int) < 2) (.side ((0 : Int) ≤ 1 ∧ (1 : Int) < 2) (.side ((0 : Int) ≤ 0 ∧ (0 : Int) < 2) (.ex (fun (x : KX) => eqL [AV.str n.1.n, AV.str n.1.c, AV.ptr 0 0, AV.ptr 2 0] [AV.str x.x, AV.str x.y, AV.ptr 0 0, AV.ptr 2 0] ∧ eqH [.box [AV.ptr 1 0], .box [AV.str n.1.n, AV.str n.1.m, AV.str n.1.d, AV.str n.1.c, AV.int .i64 n.1.e], .box [AV.fn (QOp.fn n.2) [] []]] [.box [AV.ptr 1 0], .box [AV.str x.p.n, AV.str x.p.m, AV.str x.p.d, AV.str x.p.c, AV.int .i64 x.p.e], .box [AV.fn (QOp.fn x.o) [] []]] ∧ 3 = 3 ∧ x.x.length < 4611686018427387904 ∧ x.y.length < 4611686018427387904) fun n_2 => .all (fun (r : List UInt8 × Int) => r = if Pr.e n_2.p ≠ 0 then ([], Pr.e n_2.p) else QOp.op n_2.o n_2.x n_2.y) fun n_3 => .side (Pr.d (Pr.err n_2.p n_3.2) = Pr.d n.1) (.side (Pr.m (Pr.err n_2.p n_3.2) = Pr.m n.1) (.ex (fun (x : KX) => eqL [AV.str n.1.m, AV.str n.1.d, AV.ptr 0 0, AV.ptr 2 0] [AV.str x.x, AV.str x.y, AV.ptr 0 0, AV.ptr 2 0] ∧ eqH [.box [AV.ptr 1 0], .box [AV.str (Pr.n (Pr.err n_2.p n_3.2)), AV.str (Pr.m (Pr.err n_2.p n_3.2)), AV.str (Pr.d (Pr.err n_2.p n_3.2)), AV.str (Pr.c (Pr.err n_2.p n_3.2)), AV.int .i64 (Pr.e (Pr.err n_2.p n_3.2))], .box [AV.fn (QOp.fn n_2.o) [] []]] [.box [AV.ptr 1 0], .box [AV.str x.p.n, AV.str x.p.m, AV.str x.p.d, AV.str x.p.c, AV.int .i64 x.p.e], .box [AV.fn (QOp.fn x.o) [] []]] ∧ 3 = 3 ∧ x.x.length < 4611686018427387904 ∧ x.y.length < 4611686018427387904) fun n => .all (fun (r : List UInt8 × Int) => r = if Pr.e n.p ≠ 0 then ([], Pr.e n.p) else QOp.op n.o n.x n.y) fun n_4 => .ite (!decide (Pr.e (Pr.err n.p n_4.2) = (0 : Int))) (.leaf (.ret [.int .i64 0, .int .i64 (Pr.e (Pr.err n.p n_4.2))] [.box [.str (Pr.n (Pr.err n.p n_4.2)), .str (Pr.m (Pr.err n.p n_4.2)), .str (Pr.d (Pr.err n.p n_4.2)), .str (Pr.c (Pr.err n.p n_4.2)), .int .i64 (Pr.e (Pr.err n.p n_4.2))], .box [.ptr 0 0], .box [.fn (QOp.fn n.o) [] []]])) (.ex (fun (x : List UInt8 × List UInt8) => eqL [AV.str n_3.1, AV.str n_4.1] [AV.str x.1, AV.str x.2] ∧ x.1.length < 4611686018427387904 ∧ x.2.length < 4611686018427387904) fun n_5 => .all (fun (r : Int × Int) => r = ZL n_5.1 n_5.2) fun n_6 => .leaf (.ret [.int .i64 n_6.1, .int .i64 n_6.2] [.box [.str (Pr.n (Pr.err n.p n_4.2)), .str (Pr.m (Pr.err n.p n_4.2)), .str (Pr.d (Pr.err n.p n_4.2)), .str (Pr.c (Pr.err n.p n_4.2)), .int .i64 (Pr.e (Pr.err n.p n_4.2))], .box [.ptr 0 0], .box [.fn (QOp.fn n.o) [] []]]))))))))) (by kernel_rfl) ?_
 simp only [Tree.holds, zd]
 refine ⟨(a, b), ⟨⟨rfl, rfl, trivial⟩, trivial, by trivial, by show a.length < _; omega, by show b.length < _; omega⟩, ⟨_, rfl⟩, ?_⟩
 intro p hp
 have hc := wV a b
 obtain ⟨l1, l2, l3, l4⟩ := k8 a b
 rw [← hp] at hc l1 l2 l3 l4
 refine ⟨(p, .mul), ⟨kx_k _, kx_b p, by trivial, trivial⟩, ⟨(), trivial⟩, ?_⟩
 intro _ _
 iterate 4 refine ⟨by decide, fun _ => ?_⟩
 refine ⟨⟨p, .mul, p.n, p.c⟩, ⟨kx_l _ _, kx_h (p) _, by trivial, by show (p.n).length < _; omega, by show (p.c).length < _; omega⟩, ⟨_, rfl⟩, ?_⟩
 intro r1 hr1
 have kr1 := qe _ _ _ _ hr1
 iterate 2 refine ⟨rfl, fun _ => ?_⟩
 refine ⟨⟨p.err r1.2, .mul, p.m, p.d⟩, ⟨kx_l _ _, kx_h (p.err r1.2) _, by trivial, by show (p.m).length < _; omega, by show (p.d).length < _; omega⟩, ⟨_, rfl⟩, ?_⟩
 intro r2 hr2
 have kr2 := qe _ _ _ _ hr2
 have hfin := KG hc hr1 hr2
 refine ⟨fun h => ?_, fun h => ⟨(r1.1, r2.1), ⟨⟨rfl, rfl, trivial⟩, by show r1.1.length < _; omega, by show r2.1.length < _; omega⟩, ⟨_, rfl⟩, ?_⟩⟩
 ·have h : r2.2 ≠ 0 := by
   intro h0
   have h' : (!decide (r2.2 = 0)) = true := h
   rw [h0] at h'; cases h'
  rw [if_pos h] at hfin
  rw [← hfin] at hq
  exact RetR.scal hq rfl (by simp [resV, Pr.err])
 ·have h : r2.2 = 0 := by
   have h' : (!decide (r2.2 = 0)) = false := h
   cases hd : decide (r2.2 = 0) with
   | true => exact of_decide_eq_true hd
   | false => rw [hd] at h'; cases h'
  rw [if_neg (by rw [h]; simp)] at hfin
  rintro _ rfl
  rw [← hfin] at hq
  exact RetR.scal hq rfl (by simp [resV])
end Go.Proofs.Tryd
end

/- The order of what is known. -/
section
set_option maxRecDepth 100000
open Go Go.Sx Go.Proofs Go.Nov
namespace Go.Proofs.Tryd
attribute [local simp] eqKV eqA eqA0 eqH eqB eqL eqL0
noncomputable def K62 : List Go.Sx.Item := [.code (Tryd.f62.body.getD .skip)]
def nanS : Ctr := ctrP true (fun s : List UInt8 => [.str s]) (fun _ => True) (fun s r => r = false) (fun _ (r : Bool) => (.bool r, []))
def nanI : Ctr := ctrP true (fun x : Int => [.int .i64 x]) (fun _ => True) (fun s r => r = false) (fun _ (r : Bool) => (.bool r, []))
theorem zai : zb Tryd.prog 77 nanS := by
 refine ze (fn := Tryd.f77) (c := Tryd.f77.body.getD .skip) rfl rfl rfl fun s hs O w0 Q hq => ?_
 replace hq := hq _ rfl
 refine zc.run hmix zD [] 400 (T := .leaf (.ret [.bool !decide (s = s)] [])) (by kernel_rfl) ?_
 simp only [Tree.holds, zd]
 exact RetR.scal hq rfl (by simp [resV])
theorem zbk : zb Tryd.prog 78 nanI := by
 refine ze (fn := Tryd.f78) (c := Tryd.f78.body.getD .skip) rfl rfl rfl fun s hs O w0 Q hq => ?_
 replace hq := hq _ rfl
 refine zc.run hmix zD [] 400 (T := .leaf (.ret [.bool !decide (s = s)] [])) (by kernel_rfl) ?_
 simp only [Tree.holds, zd]
 exact RetR.scal hq rfl (by simp [resV])
def zco : Ctr := ctrP true (fun p : List UInt8 × List UInt8 => [.str p.1, .str p.2]) (fun _ => True) (fun p r => r = cmpS p.1 p.2) (fun _ (r : Int) => (.int .i64 r, []))
def zd2 : Ctr := ctrP true (fun p : Int × Int => [.int .i64 p.1, .int .i64 p.2]) (fun _ => True) (fun p r => r = cmpI p.1 p.2) (fun _ (r : Int) => (.int .i64 r, []))
noncomputable def GN2 : Nat → Option Ctr := fun f => if f = 77 then some (nanS) else if f = 78 then some (nanI) else none
theorem XE : ∀ g c, GN2 g = some c → zb Tryd.prog g c := okIf zai (okIf zbk (zn))
theorem zan : zb Tryd.prog 63 zco := by
 refine ze (fn := Tryd.f63) (c := Tryd.f63.body.getD .skip) rfl rfl rfl fun p hs O w0 Q hq => ?_
 obtain ⟨s, t⟩ := p
 replace hq := hq _ rfl
 simp only at hq
 refine zc.run hmix XE [] 400 (T := .ex (fun (x : List UInt8) => eqL [AV.str s] [AV.str x] ∧ True) fun n => .all (fun (r : Bool) => r = false) fun n => .ex (fun (x : List UInt8) => eqL [AV.str t] [AV.str x] ∧ True) fun n_1 => .all (fun (r : Bool) => r = false) fun n_2 => .ite n (.ite n_2 (.leaf (.ret [.int .i64 0] [])) (.leaf (.ret [.int .i64 (-1 : Int)] []))) (.ite n_2 (.leaf (.ret [.int .i64 1] [])) (.ite (Op.bytesLess s t) (.leaf (.ret [.int .i64 (-1 : Int)] [])) (.ite (!(Op.bytesLess s t || decide (s = t))) (.leaf (.ret [.int .i64 1] [])) (.leaf (.ret [.int .i64 0] [])))))) (by kernel_rfl) ?_
 simp only [Tree.holds, zd]
 refine ⟨s, ⟨by simp, trivial⟩, ⟨_, rfl⟩, ?_⟩
 rintro _ rfl
 refine ⟨t, ⟨by simp, trivial⟩, ⟨_, rfl⟩, ?_⟩
 rintro _ rfl
 refine ⟨fun h => (by cases h), fun _ => ⟨fun h => (by cases h), fun _ => ⟨fun h => ?_, fun h => ⟨fun h2 => ?_, fun h2 => ?_⟩⟩⟩⟩
 ·have : cmpS s t = -1 := by simp [cmpS, h]
  rw [this] at hq; exact RetR.scal hq rfl (by simp [resV])
 ·have h2 : s ≠ t := by simpa [h] using h2
  have : cmpS s t = 1 := by simp [cmpS, h, h2]
  rw [this] at hq; exact RetR.scal hq rfl (by simp [resV])
 ·have h2 : s = t := by simpa [h] using h2
  subst h2
  have : cmpS s s = 0 := by simp [cmpS, h]
  rw [this] at hq; exact RetR.scal hq rfl (by simp [resV])
theorem zah : zb Tryd.prog 64 zd2 := by
 refine ze (fn := Tryd.f64) (c := Tryd.f64.body.getD .skip) rfl rfl rfl fun p hs O w0 Q hq => ?_
 obtain ⟨s, t⟩ := p
 replace hq := hq _ rfl
 simp only at hq
 refine zc.run hmix XE [] 400 (T := .ex (fun (x : Int) => eqL [AV.int .i64 s] [AV.int .i64 x] ∧ True) fun n => .all (fun (r : Bool) => r = false) fun n => .ex (fun (x : Int) => eqL [AV.int .i64 t] [AV.int .i64 x] ∧ True) fun n_1 => .all (fun (r : Bool) => r = false) fun n_2 => .ite n (.ite n_2 (.leaf (.ret [.int .i64 0] [])) (.leaf (.ret [.int .i64 (-1 : Int)] []))) (.ite n_2 (.leaf (.ret [.int .i64 1] [])) (.ite (decide (s < t)) (.leaf (.ret [.int .i64 (-1 : Int)] [])) (.ite (decide (t < s)) (.leaf (.ret [.int .i64 1] [])) (.leaf (.ret [.int .i64 0] [])))))) (by kernel_rfl) ?_
 simp only [Tree.holds, zd]
 refine ⟨s, ⟨by simp, trivial⟩, ⟨_, rfl⟩, ?_⟩
 rintro _ rfl
 refine ⟨t, ⟨by simp, trivial⟩, ⟨_, rfl⟩, ?_⟩
 rintro _ rfl
 refine ⟨fun h => (by cases h), fun _ => ⟨fun h => (by cases h), fun _ => ⟨fun h => ?_, fun h => ⟨fun h2 => ?_, fun h2 => ?_⟩⟩⟩⟩
 ·have h := of_decide_eq_true h
  have : cmpI s t = -1 := by simp [cmpI, h]
  rw [this] at hq; exact RetR.scal hq rfl (by simp [resV])
 ·have h := of_decide_eq_false h
  have h2 := of_decide_eq_true h2
  have : cmpI s t = 1 := by simp [cmpI, h, h2]
  rw [this] at hq; exact RetR.scal hq rfl (by simp [resV])
 ·have h := of_decide_eq_false h
  have h2 := of_decide_eq_false h2
  have : cmpI s t = 0 := by simp [cmpI, h, h2]
  rw [this] at hq; exact RetR.scal hq rfl (by simp [resV])
def orC : Ctr := ctrP true (fun l : List Int => [.sl l.length 1 (fun j _ => .int .i64 (l.getD j 0))]) (fun l => l.length < 2 ^ 40) (fun l r => r = orI l) (fun _ (r : Int) => (.int .i64 r, []))
def SOr (l : List Int) (i : Nat) : KV := [(3, .int .i64 0), (6, .sl l.length 1 (fun j _ => .int .i64 (l.getD j 0))), (7, .int .i64 (l.length : Int)), (8, .int .i64 (i : Int))]
theorem zev : zb Tryd.prog 62 orC := by
 refine ze (fn := Tryd.f62) (c := Tryd.f62.body.getD .skip) rfl rfl rfl fun l hl O w0 Q hq => ?_
 replace hq := hq _ rfl
 refine zc.run hmix zD [3, 6, 7, 8] 400 (T := .leaf (.loop (Prod.fst (lps K62 0)) (Prod.snd (lps K62 0)) [(3, .int .i64 0), (6, .sl l.length 1 fun (j x : Nat) => .int .i64 (List.getD l j (0 : Int))), (7, .int .i64 l.length), (8, .int .i64 0)] [])) (by kernel_rfl) ?_
 simp only [Tree.holds, zd]
 refine zc.loop (ι := {i : Nat // i ≤ l.length ∧ orI (l.drop i) = orI l}) (fun i => SOr l i.1) (fun _ => []) (fun i => l.length - i.1) ⟨0, Nat.zero_le _, rfl⟩ 0 ?_ ?_ (by kernel_rfl)
 ·exact ⟨by simp [SOr, za], by simp, by kernel_rfl, Nat.zero_le _⟩
 ·rintro ⟨i, hil, hio⟩
  refine zc.run hmix zD [3, 6, 7, 8] 400 (T := .ite (decide ((↑i : Int) < l.length)) (.side ((0 : Int) ≤ i ∧ (↑i : Int) < l.length) (.ite (!decide (List.getD l (Int.toNat (↑i : Int)) (0 : Int) = 0)) (.leaf (.ret [.int .i64 (List.getD l (Int.toNat (↑i : Int)) (0 : Int))] [])) (.side (inR .i64 ((↑i : Int) + (1 : Int))) (.leaf (.back 0 [(3, .int .i64 0), (6, .sl l.length 1 fun (j x : Nat) => .int .i64 (List.getD l j (0 : Int))), (7, .int .i64 l.length), (8, .int .i64 ((↑i : Int) + (1 : Int)))] []))))) (.leaf (.ret [.int .i64 0] []))) (by kernel_rfl) ?_
  simp only [Tree.holds, zd, inR, lo, hi, Int.toNat_natCast]
  refine ⟨fun hlt => ?_, fun hge => ?_⟩
  ·have hlt : i < l.length := by have := of_decide_eq_true hlt; omega
   have hd : l.drop i = l.getD i 0 :: l.drop (i + 1) := by
    rw [List.drop_eq_getElem_cons hlt]; simp [List.getD, hlt]
   rw [hd] at hio
   refine ⟨by omega, fun _ => ⟨fun h => ?_, fun h => ⟨by omega, fun _ => ?_⟩⟩⟩
   ·have h : l.getD i 0 ≠ 0 := by simpa using h
    have : orI l = l.getD i 0 := by rw [← hio]; simp only [orI]; rw [if_neg h]
    rw [this] at hq; exact RetR.scal hq rfl (by simp [resV])
   ·have h : l.getD i 0 = 0 := by simpa using h
    rw [if_pos trivial]
    refine ⟨⟨i + 1, hlt, ?_⟩, by show l.length - (i + 1) < l.length - i; omega, by simp [SOr, za], by simp, by kernel_rfl, Nat.zero_le _⟩
    rw [← hio]; simp only [orI]; rw [if_pos h]
  ·have hge : i = l.length := by have := of_decide_eq_false hge; omega
   subst hge
   rw [List.drop_length] at hio
   rw [← hio] at hq; exact RetR.scal hq rfl (by simp [resV, orI])
def xv : Ctr := ctrP true (fun p : Fx × Fx => [p.1.av, p.2.av]) (fun _ => True) (fun p r => r = cmpF p.1 p.2) (fun _ (r : Int) => (.int .i64 r, []))
def xF : Ctr := ctrP true (fun p : Ch × Ch => [p.1.av, p.2.av]) (fun _ => True) (fun p r => r = cmpC p.1 p.2) (fun _ (r : Int) => (.int .i64 r, []))
noncomputable def GN3 : Nat → Option Ctr := fun f => if f = 63 then some (zco) else if f = 64 then some (zd2) else if f = 62 then some (orC) else none
theorem YM : ∀ g c, GN3 g = some c → zb Tryd.prog g c := okIf zan (okIf zah (okIf zev (zn)))
theorem X8 (x y : Int) : eqG 2 1 (zg (zj 1 [.int .i64 x, .int .i64 y]) 0) (fun j _ => .int .i64 ([x, y].getD j 0)) := by
 intro j o hj ho
 have ho : o = 0 := by omega
 subst ho
 rcases j with _ | _ | j
 ·rfl
 ·rfl
 ·omega
theorem X3 (x y z : Int) : eqG 3 1 (zg (zj 1 [.int .i64 x, .int .i64 y, .int .i64 z]) 0) (fun j _ => .int .i64 ([x, y, z].getD j 0)) := by
 intro j o hj ho
 have ho : o = 0 := by omega
 subst ho
 rcases j with _ | _ | _ | j
 ·rfl
 ·rfl
 ·rfl
 ·omega
theorem kK : zb Tryd.prog 38 xv := by
 refine ze (fn := Tryd.f38) (c := Tryd.f38.body.getD .skip) rfl rfl rfl fun p hs O w0 Q hq => ?_
 obtain ⟨⟨a, d, v⟩, ⟨b, e, u⟩⟩ := p
 replace hq := hq _ rfl
 simp only at hq
 refine zc.run hmix YM [] 400 (T := .ex (fun (x : List UInt8 × List UInt8) => eqL [AV.str a, AV.str b] [AV.str x.1, AV.str x.2] ∧ True) fun n => .all (fun (r : Int) => r = cmpS n.1 n.2) fun n => .ex (fun (x : Int × Int) => eqL [AV.int .i64 d, AV.int .i64 e] [AV.int .i64 x.1, AV.int .i64 x.2] ∧ True) fun n_1 => .all (fun (r : Int) => r = cmpI n_1.1 n_1.2) fun n_2 => .ex (fun (x : List Int) => eqL [AV.sl 2 1 (zg (zj 1 [AV.int .i64 n, AV.int .i64 n_2]) 0)] [AV.sl x.length 1 fun (j x_1 : Nat) => AV.int .i64 (List.getD x j (0 : Int))] ∧ x.length < 1099511627776) fun n_3 => .all (fun (r : Int) => r = orI n_3) fun n_4 => .leaf (.ret [.int .i64 n_4] [.box [.str a, .int .i64 d, .str v], .box [.str b, .int .i64 e, .str u], .arr 2 1 (zj 1 [.int .i64 n, .int .i64 n_2])])) (by kernel_rfl) ?_
 simp only [Tree.holds, zd]
 refine ⟨(a, b), ⟨by simp, trivial⟩, ⟨_, rfl⟩, ?_⟩
 rintro _ rfl
 refine ⟨(d, e), ⟨by simp, trivial⟩, ⟨_, rfl⟩, ?_⟩
 rintro _ rfl
 refine ⟨[cmpS a b, cmpI d e], ⟨⟨⟨rfl, rfl, X8 _ _⟩, trivial⟩, by simp⟩, ⟨_, rfl⟩, ?_⟩
 rintro _ rfl
 have : orI [cmpS a b, cmpI d e] = cmpF ⟨a, d, v⟩ ⟨b, e, u⟩ := by
  simp only [orI, cmpF]
  by_cases h : cmpS a b = 0
  ·simp only [h, if_true]; split <;> simp_all
  ·simp only [if_neg h]
 rw [this]
 exact RetR.scal hq rfl (by simp [resV])
theorem kY : zb Tryd.prog 48 xF := by
 refine ze (fn := Tryd.f48) (c := Tryd.f48.body.getD .skip) rfl rfl rfl fun p hs O w0 Q hq => ?_
 obtain ⟨⟨a, d, v, f⟩, ⟨b, e, u, g⟩⟩ := p
 replace hq := hq _ rfl
 simp only at hq
 refine zc.run hmix YM [] 400 (T := .ex (fun (x : List UInt8 × List UInt8) => eqL [AV.str a, AV.str b] [AV.str x.1, AV.str x.2] ∧ True) fun n => .all (fun (r : Int) => r = cmpS n.1 n.2) fun n => .ex (fun (x : List UInt8 × List UInt8) => eqL [AV.str d, AV.str e] [AV.str x.1, AV.str x.2] ∧ True) fun n_1 => .all (fun (r : Int) => r = cmpS n_1.1 n_1.2) fun n_2 => .ex (fun (x : Int × Int) => eqL [AV.int .i64 v, AV.int .i64 u] [AV.int .i64 x.1, AV.int .i64 x.2] ∧ True) fun n_3 => .all (fun (r : Int) => r = cmpI n_3.1 n_3.2) fun n_4 => .ex (fun (x : List Int) => eqL [AV.sl 3 1 (zg (zj 1 [AV.int .i64 n, AV.int .i64 n_2, AV.int .i64 n_4]) 0)] [AV.sl x.length 1 fun (j x_1 : Nat) => AV.int .i64 (List.getD x j (0 : Int))] ∧ x.length < 1099511627776) fun n_5 => .all (fun (r : Int) => r = orI n_5) fun n_6 => .leaf (.ret [.int .i64 n_6] [.box [.str a, .str d, .int .i64 v, .bool f], .box [.str b, .str e, .int .i64 u, .bool g], .arr 3 1 (zj 1 [.int .i64 n, .int .i64 n_2, .int .i64 n_4])])) (by kernel_rfl) ?_
 simp only [Tree.holds, zd]
 refine ⟨(a, b), ⟨by simp, trivial⟩, ⟨_, rfl⟩, ?_⟩
 rintro _ rfl
 refine ⟨(d, e), ⟨by simp, trivial⟩, ⟨_, rfl⟩, ?_⟩
 rintro _ rfl
 refine ⟨(v, u), ⟨by simp, trivial⟩, ⟨_, rfl⟩, ?_⟩
 rintro _ rfl
 refine ⟨[cmpS a b, cmpS d e, cmpI v u], ⟨⟨⟨rfl, rfl, X3 _ _ _⟩, trivial⟩, by simp⟩, ⟨_, rfl⟩, ?_⟩
 rintro _ rfl
 have : orI [cmpS a b, cmpS d e, cmpI v u] = cmpC ⟨a, d, v, f⟩ ⟨b, e, u, g⟩ := by
  simp only [orI, cmpC]
  by_cases h : cmpS a b = 0
  ·simp only [h, if_true]
   by_cases h2 : cmpS d e = 0
   ·simp only [h2, if_true]; split <;> simp_all
   ·simp only [if_neg h2]
  ·simp only [if_neg h]
 rw [this]
 exact RetR.scal hq rfl (by simp [resV])
end Go.Proofs.Tryd
end

/- What is known: the checks. -/
section
set_option maxRecDepth 100000
open Go Go.Sx Go.Proofs Go.Nov
namespace Go.Proofs.Tryd
attribute [local simp] eqKV eqA eqA0 eqH eqB eqL eqL0
noncomputable def K66 : List Go.Sx.Item := [.code (Tryd.f66.body.getD .skip)]
noncomputable def K68 : List Go.Sx.Item := [.code (Tryd.f68.body.getD .skip)]
noncomputable def K46 : List Go.Sx.Item := [.code (Tryd.f46.body.getD .skip)]
noncomputable def K47 : List Go.Sx.Item := [.code (Tryd.f47.body.getD .skip)]
def ji (f : Fx) : Prop := f.name.length < 2 ^ 40 ∧ f.value.length < 2 ^ 40
def vG (c : Ch) : Prop := c.zo.length < 2 ^ 40 ∧ c.name.length < 2 ^ 40
def zcq : Ctr := ctrP true (fun f : Fx => [f.av]) ji (fun f r => r = !okF f) (fun _ (r : Bool) => (.bool r, []))
def zcl : Ctr := ctrP true (fun c : Ch => [c.av]) vG (fun c r => r = !okC c) (fun _ (r : Bool) => (.bool r, []))
noncomputable def GE1 : Nat → Option Ctr := fun f => if f = 25 then some (Wu) else if f = 35 then some (xG) else if f = 36 then some (x2) else none
theorem XP : ∀ g c, GE1 g = some c → zb Tryd.prog g c := okIf QN (okIf k9 (okIf kz (zn)))
theorem za8 : zb Tryd.prog 42 zcq := by
 refine ze (fn := Tryd.f42) (c := Tryd.f42.body.getD .skip) rfl rfl rfl fun f hs O w0 Q hq => ?_
 obtain ⟨a, d, v⟩ := f
 obtain ⟨h1, h2⟩ := hs
 replace hq := hq _ rfl
 simp only [okF] at hq h1 h2
 refine zc.run hmix XP [] 400 (T := .ex (fun (x : List UInt8) => eqL [AV.str a] [AV.str x] ∧ x.length < 4611686018427387904) fun n => .all (fun (r : Bool) => r = qK n) fun n => .ex (fun (x : Int) => (!n) = false → eqL [AV.int .i64 d] [AV.int .i64 x] ∧ True) fun n_1 => .all (fun (x : Bool) => (!n) = false → x = dayB n_1) fun n_2 => .ex (fun (x : List UInt8) => (bif !n then true else !n_2) = false → eqL [AV.str v] [AV.str x] ∧ x.length < 4611686018427387904) fun n_3 => .all (fun (x : Int) => (bif !n then true else !n_2) = false → x = errR n_3) fun n_4 => .leaf (.ret [.bool (bif bif !n then true else !n_2 then true else !decide (n_4 = 0))] [.box [.str a, .int .i64 d, .str v]])) (by kernel_rfl) ?_
 simp only [Tree.holds, zd]
 refine ⟨a, ⟨by simp, by omega⟩, ⟨_, rfl⟩, ?_⟩
 rintro _ rfl
 refine ⟨d, fun _ => ⟨by simp, trivial⟩, ⟨_, fun _ => rfl⟩, ?_⟩
 intro x hx
 refine ⟨v, fun _ => ⟨by simp, by omega⟩, ⟨_, fun _ => rfl⟩, ?_⟩
 intro y hy
 refine RetR.scal hq rfl ?_
 simp only [resV]
 cases hn : qK a with
 | false => rfl
 | true =>
  rw [hx (by rw [hn]; rfl)] at hy ⊢
  cases hd : dayB d with
  | false => rfl
  | true => rw [hy (by rw [hn, hd]; rfl)]; rfl
theorem zbz : zb Tryd.prog 43 zcl := by
 refine ze (fn := Tryd.f43) (c := Tryd.f43.body.getD .skip) rfl rfl rfl fun f hs O w0 Q hq => ?_
 obtain ⟨a, v, d, f⟩ := f
 obtain ⟨h1, h2⟩ := hs
 replace hq := hq _ rfl
 simp only [okC] at hq h1 h2
 refine zc.run hmix XP [] 400 (T := .ex (fun (x : List UInt8) => eqL [AV.str a] [AV.str x] ∧ x.length < 4611686018427387904) fun n => .all (fun (r : Bool) => r = qK n) fun n => .ex (fun (x : List UInt8) => (!n) = false → eqL [AV.str v] [AV.str x] ∧ x.length < 4611686018427387904) fun n_1 => .all (fun (x : Bool) => (!n) = false → x = qK n_1) fun n_2 => .ex (fun (x : Int) => (bif !n then true else !n_2) = false → eqL [AV.int .i64 d] [AV.int .i64 x] ∧ True) fun n_3 => .all (fun (x : Bool) => (bif !n then true else !n_2) = false → x = dayB n_3) fun n_4 => .leaf (.ret [.bool (bif bif !n then true else !n_2 then true else !n_4)] [.box [.str a, .str v, .int .i64 d, .bool f]])) (by kernel_rfl) ?_
 simp only [Tree.holds, zd]
 refine ⟨a, ⟨by simp, by omega⟩, ⟨_, rfl⟩, ?_⟩
 rintro _ rfl
 refine ⟨v, fun _ => ⟨by simp, by omega⟩, ⟨_, fun _ => rfl⟩, ?_⟩
 intro x hx
 refine ⟨d, fun _ => ⟨by simp, trivial⟩, ⟨_, fun _ => rfl⟩, ?_⟩
 intro y hy
 refine RetR.scal hq rfl ?_
 simp only [resV]
 cases hn : qK a with
 | false => rfl
 | true =>
  rw [hx (by rw [hn]; rfl)] at hy ⊢
  cases hd : qK v with
  | false => rfl
  | true => rw [hy (by rw [hn, hd]; rfl)]; rfl
def zct : Ctr := ctrP true (fun l : List Fx => [fxS l, .fn 42 [] []]) (fun l => l.length < 2 ^ 40 ∧ ∀ j, j < l.length → ji (l.getD j Fx.nil)) (fun l r => r = idxB (fun x => !okF x) l) (fun _ (r : Int) => (.int .i64 r, []))
def SIxF (l : List Fx) (i : Nat) : KV := [(0, fxS l), (1, .fn 42 [] []), (7, .int .i64 (l.length : Int)), (8, .int .i64 (i : Int))]
noncomputable def GE2F : Nat → Option Ctr := fun f => if f = 42 then some (zcq) else none
theorem VD : ∀ g c, GE2F g = some c → zb Tryd.prog g c := okIf za8 (zn)
theorem za6 : zb Tryd.prog 66 zct := by
 refine ze (fn := Tryd.f66) (c := Tryd.f66.body.getD .skip) rfl rfl rfl fun l hl O w0 Q hq => ?_
 obtain ⟨hl, hsm⟩ := hl
 replace hq := hq _ rfl
 refine zc.run hmix VD [0, 1, 7, 8] 400 (T := .leaf (.loop (Prod.fst (lps K66 0)) (Prod.snd (lps K66 0)) [(0, .sl l.length 3 (fxG l)), (1, .fn 42 [] []), (7, .int .i64 l.length), (8, .int .i64 0)] [])) (by kernel_rfl) ?_
 simp only [Tree.holds, zd]
 refine zc.loop (ι := {i : Nat // i ≤ l.length ∧ ∀ j, j < i → (!okF (l.getD j Fx.nil)) = false}) (fun i => SIxF l i.1) (fun _ => []) (fun i => l.length - i.1) ⟨0, Nat.zero_le _, fun j hj => by omega⟩ 0 ?_ ?_ (by kernel_rfl)
 ·exact ⟨by simp [SIxF, fxS, za], by simp, by kernel_rfl, Nat.zero_le _⟩
 ·rintro ⟨i, hil, hib⟩
  refine zc.run hmix VD [0, 1, 7, 8] 400 (T := .ite (decide ((↑i : Int) < l.length)) (.side ((0 : Int) ≤ i ∧ (↑i : Int) < l.length) (.ex (fun (x : Fx) => eqL [AV.agg [AV.str (Fx.name (List.getD l (Int.toNat (↑i : Int)) Fx.nil)), AV.int .i64 (Fx.date (List.getD l (Int.toNat (↑i : Int)) Fx.nil)), AV.str (Fx.value (List.getD l (Int.toNat (↑i : Int)) Fx.nil))]] [AV.agg [AV.str x.name, AV.int .i64 x.date, AV.str x.value]] ∧ ji x) fun n => .all (fun (r : Bool) => r = !okF n) fun n => .ite n (.leaf (.ret [.int .i64 i] [])) (.side (inR .i64 ((↑i : Int) + (1 : Int))) (.leaf (.back 0 [(0, .sl l.length 3 (fxG l)), (1, .fn 42 [] []), (7, .int .i64 l.length), (8, .int .i64 ((↑i : Int) + (1 : Int)))] []))))) (.leaf (.ret [.int .i64 (-1 : Int)] []))) (by kernel_rfl) ?_
  simp only [Tree.holds, zd, inR, lo, hi, Int.toNat_natCast]
  refine ⟨fun hlt => ?_, fun hge => ?_⟩
  ·have hlt : i < l.length := by have := of_decide_eq_true hlt; omega
   refine ⟨by omega, fun _ => ⟨l.getD i Fx.nil, ⟨by simp, hsm i hlt⟩, ⟨_, rfl⟩, ?_⟩⟩
   rintro _ rfl
   refine ⟨fun h => ?_, fun h => ⟨by omega, fun _ => ?_⟩⟩
   ·rw [yJ hlt h hib] at hq
    exact RetR.scal hq rfl (by simp [resV])
   ·rw [if_pos trivial]
    refine ⟨⟨i + 1, hlt, fun j hj => ?_⟩, by show l.length - (i + 1) < l.length - i; omega, by simp [SIxF, fxS, za], by simp, by kernel_rfl, Nat.zero_le _⟩
    rcases Nat.lt_or_ge j i with h1 | h1
    ·exact hib j h1
    ·have : j = i := by omega
     rw [this]; exact h
  ·have hge : i = l.length := by have := of_decide_eq_false hge; omega
   subst hge
   rw [kr hib] at hq
   exact RetR.scal hq rfl (by simp [resV])
def zce : Ctr := ctrP true (fun l : List Fx => [fxS l, .fn 42 [] []]) (fun l => l.length < 2 ^ 40 ∧ ∀ j, j < l.length → ji (l.getD j Fx.nil)) (fun l r => r = l.any fun x => !okF x) (fun _ (r : Bool) => (.bool r, []))
noncomputable def GE3F : Nat → Option Ctr := fun f => if f = 66 then some (zct) else none
theorem za7 : ∀ g c, GE3F g = some c → zb Tryd.prog g c := okIf za6 (zn)
theorem zax : zb Tryd.prog 44 zce := by
 refine ze (fn := Tryd.f44) (c := Tryd.f44.body.getD .skip) rfl rfl rfl fun l hl O w0 Q hq => ?_
 replace hq := hq _ rfl
 refine zc.run hmix za7 [] 400 (T := .ex (fun (x : List Fx) => eqL [AV.sl l.length 3 (fxG l), AV.fn 42 [] []] [AV.sl x.length 3 (fxG x), AV.fn 42 [] []] ∧ x.length < 1099511627776 ∧ ∀ (j : Nat), j < x.length → ji (x.getD j Fx.nil)) fun n => .all (fun (r : Int) => r = idxB (fun (x : Fx) => !okF x) n) fun n => .leaf (.ret [.bool (decide ((0 : Int) ≤ n))] [])) (by kernel_rfl) ?_
 simp only [Tree.holds, zd]
 refine ⟨l, ⟨by simp [za], hl⟩, ⟨_, rfl⟩, ?_⟩
 rintro _ rfl
 rw [← Jv] at hq
 exact RetR.scal hq rfl (by simp [resV])
def zch : Ctr := ctrP true (fun l : List Ch => [chS l, .fn 43 [] []]) (fun l => l.length < 2 ^ 40 ∧ ∀ j, j < l.length → vG (l.getD j Ch.nil)) (fun l r => r = idxB (fun x => !okC x) l) (fun _ (r : Int) => (.int .i64 r, []))
def SIxC (l : List Ch) (i : Nat) : KV := [(0, chS l), (1, .fn 43 [] []), (7, .int .i64 (l.length : Int)), (8, .int .i64 (i : Int))]
noncomputable def GE2C : Nat → Option Ctr := fun f => if f = 43 then some (zcl) else none
theorem VH : ∀ g c, GE2C g = some c → zb Tryd.prog g c := okIf zbz (zn)
theorem zaa : zb Tryd.prog 68 zch := by
 refine ze (fn := Tryd.f68) (c := Tryd.f68.body.getD .skip) rfl rfl rfl fun l hl O w0 Q hq => ?_
 obtain ⟨hl, hsm⟩ := hl
 replace hq := hq _ rfl
 refine zc.run hmix VH [0, 1, 7, 8] 400 (T := .leaf (.loop (Prod.fst (lps K68 0)) (Prod.snd (lps K68 0)) [(0, .sl l.length 4 (chG l)), (1, .fn 43 [] []), (7, .int .i64 l.length), (8, .int .i64 0)] [])) (by kernel_rfl) ?_
 simp only [Tree.holds, zd]
 refine zc.loop (ι := {i : Nat // i ≤ l.length ∧ ∀ j, j < i → (!okC (l.getD j Ch.nil)) = false}) (fun i => SIxC l i.1) (fun _ => []) (fun i => l.length - i.1) ⟨0, Nat.zero_le _, fun j hj => by omega⟩ 0 ?_ ?_ (by kernel_rfl)
 ·exact ⟨by simp [SIxC, chS, za], by simp, by kernel_rfl, Nat.zero_le _⟩
 ·rintro ⟨i, hil, hib⟩
  refine zc.run hmix VH [0, 1, 7, 8] 400 (T := .ite (decide ((↑i : Int) < l.length)) (.side ((0 : Int) ≤ i ∧ (↑i : Int) < l.length) (.ex (fun (x : Ch) => eqL [AV.agg [AV.str (Ch.zo (List.getD l (Int.toNat (↑i : Int)) Ch.nil)), AV.str (Ch.name (List.getD l (Int.toNat (↑i : Int)) Ch.nil)), AV.int .i64 (Ch.date (List.getD l (Int.toNat (↑i : Int)) Ch.nil)), AV.bool (Ch.first (List.getD l (Int.toNat (↑i : Int)) Ch.nil))]] [AV.agg [AV.str x.zo, AV.str x.name, AV.int .i64 x.date, AV.bool x.first]] ∧ vG x) fun n => .all (fun (r : Bool) => r = !okC n) fun n => .ite n (.leaf (.ret [.int .i64 i] [])) (.side (inR .i64 ((↑i : Int) + (1 : Int))) (.leaf (.back 0 [(0, .sl l.length 4 (chG l)), (1, .fn 43 [] []), (7, .int .i64 l.length), (8, .int .i64 ((↑i : Int) + (1 : Int)))] []))))) (.leaf (.ret [.int .i64 (-1 : Int)] []))) (by kernel_rfl) ?_
  simp only [Tree.holds, zd, inR, lo, hi, Int.toNat_natCast]
  refine ⟨fun hlt => ?_, fun hge => ?_⟩
  ·have hlt : i < l.length := by have := of_decide_eq_true hlt; omega
   refine ⟨by omega, fun _ => ⟨l.getD i Ch.nil, ⟨by simp, hsm i hlt⟩, ⟨_, rfl⟩, ?_⟩⟩
   rintro _ rfl
   refine ⟨fun h => ?_, fun h => ⟨by omega, fun _ => ?_⟩⟩
   ·rw [yJ hlt h hib] at hq
    exact RetR.scal hq rfl (by simp [resV])
   ·rw [if_pos trivial]
    refine ⟨⟨i + 1, hlt, fun j hj => ?_⟩, by show l.length - (i + 1) < l.length - i; omega, by simp [SIxC, chS, za], by simp, by kernel_rfl, Nat.zero_le _⟩
    rcases Nat.lt_or_ge j i with h1 | h1
    ·exact hib j h1
    ·have : j = i := by omega
     rw [this]; exact h
  ·have hge : i = l.length := by have := of_decide_eq_false hge; omega
   subst hge
   rw [kr hib] at hq
   exact RetR.scal hq rfl (by simp [resV])
def zci : Ctr := ctrP true (fun l : List Ch => [chS l, .fn 43 [] []]) (fun l => l.length < 2 ^ 40 ∧ ∀ j, j < l.length → vG (l.getD j Ch.nil)) (fun l r => r = l.any fun x => !okC x) (fun _ (r : Bool) => (.bool r, []))
noncomputable def GE3C : Nat → Option Ctr := fun f => if f = 68 then some (zch) else none
theorem zbc : ∀ g c, GE3C g = some c → zb Tryd.prog g c := okIf zaa (zn)
theorem zc9 : zb Tryd.prog 45 zci := by
 refine ze (fn := Tryd.f45) (c := Tryd.f45.body.getD .skip) rfl rfl rfl fun l hl O w0 Q hq => ?_
 replace hq := hq _ rfl
 refine zc.run hmix zbc [] 400 (T := .ex (fun (x : List Ch) => eqL [AV.sl l.length 4 (chG l), AV.fn 43 [] []] [AV.sl x.length 4 (chG x), AV.fn 43 [] []] ∧ x.length < 1099511627776 ∧ ∀ (j : Nat), j < x.length → vG (x.getD j Ch.nil)) fun n => .all (fun (r : Int) => r = idxB (fun (x : Ch) => !okC x) n) fun n => .leaf (.ret [.bool (decide ((0 : Int) ≤ n))] [])) (by kernel_rfl) ?_
 simp only [Tree.holds, zd]
 refine ⟨l, ⟨by simp [za], hl⟩, ⟨_, rfl⟩, ?_⟩
 rintro _ rfl
 rw [← Jv] at hq
 exact RetR.scal hq rfl (by simp [resV])
def zcj : Ctr := ctrP true (fun l : List Fx => [fxS l, .fn 38 [] []]) (fun l => l.length < 2 ^ 40) (fun l r => r = ordB cmpF Fx.nil l) (fun _ (r : Bool) => (.bool r, []))
def SOdF (l : List Fx) (i : Nat) : KV := [(0, fxS l), (1, .fn 38 [] []), (5, .int .i64 (i : Int))]
noncomputable def GE4F : Nat → Option Ctr := fun f => if f = 38 then some (xv) else none
theorem K1 : ∀ g c, GE4F g = some c → zb Tryd.prog g c := okIf kK (zn)
theorem zak : zb Tryd.prog 46 zcj := by
 refine ze (fn := Tryd.f46) (c := Tryd.f46.body.getD .skip) rfl rfl rfl fun l hl O w0 Q hq => ?_
 replace hq := hq _ rfl
 refine zc.run hmix K1 [0, 1, 5] 400 (T := .leaf (.loop (Prod.fst (lps K46 0)) (Prod.snd (lps K46 0)) [(0, .sl l.length 3 (fxG l)), (1, .fn 38 [] []), (5, .int .i64 1)] [])) (by kernel_rfl) ?_
 simp only [Tree.holds, zd]
 refine zc.loop (ι := {i : Nat // 0 < i ∧ (i ≤ l.length ∨ i = 1) ∧ ∀ j, j + 1 < i → cmpF (l.getD j Fx.nil) (l.getD (j + 1) Fx.nil) < 0}) (fun i => SOdF l i.1) (fun _ => []) (fun i => l.length - i.1) ⟨1, Nat.one_pos, .inr rfl, fun j hj => by omega⟩ 0 ?_ ?_ (by kernel_rfl)
 ·exact ⟨by simp [SOdF, fxS, za], by simp, by kernel_rfl, Nat.zero_le _⟩
 ·rintro ⟨i, hi0, hil, hib⟩
  refine zc.run hmix K1 [0, 1, 5] 400 (T := .ite (decide ((↑i : Int) < l.length)) (.side (inR .i64 ((↑i : Int) - (1 : Int))) (.side ((0 : Int) ≤ i - (1 : Int) ∧ (↑i : Int) - (1 : Int) < l.length) (.side ((0 : Int) ≤ i ∧ (↑i : Int) < l.length) (.ex (fun (x : Fx × Fx) => eqL [AV.agg [AV.str (Fx.name (List.getD l (Int.toNat ((↑i : Int) - (1 : Int))) Fx.nil)), AV.int .i64 (Fx.date (List.getD l (Int.toNat ((↑i : Int) - (1 : Int))) Fx.nil)), AV.str (Fx.value (List.getD l (Int.toNat ((↑i : Int) - (1 : Int))) Fx.nil))], AV.agg [AV.str (Fx.name (List.getD l (Int.toNat (↑i : Int)) Fx.nil)), AV.int .i64 (Fx.date (List.getD l (Int.toNat (↑i : Int)) Fx.nil)), AV.str (Fx.value (List.getD l (Int.toNat (↑i : Int)) Fx.nil))]] [AV.agg [AV.str x.1.name, AV.int .i64 x.1.date, AV.str x.1.value], AV.agg [AV.str x.2.name, AV.int .i64 x.2.date, AV.str x.2.value]] ∧ True) fun n => .all (fun (r : Int) => r = cmpF n.1 n.2) fun n => .ite (decide ((0 : Int) ≤ n)) (.leaf (.ret [.bool false] [])) (.side (inR .i64 ((↑i : Int) + (1 : Int))) (.leaf (.back 0 [(0, .sl l.length 3 (fxG l)), (1, .fn 38 [] []), (5, .int .i64 ((↑i : Int) + (1 : Int)))] []))))))) (.leaf (.ret [.bool true] []))) (by kernel_rfl) ?_
  simp only [Tree.holds, zd, inR, lo, hi, Int.toNat_natCast]
  have e : ((i : Int) - 1).toNat = i - 1 := by omega
  have e2 : i - 1 + 1 = i := by omega
  refine ⟨fun hlt => ?_, fun hge => ?_⟩
  ·have hlt : i < l.length := by have := of_decide_eq_true hlt; omega
   simp only [e]
   refine ⟨by omega, fun _ => ⟨by omega, fun _ => ⟨by omega, fun _ => ⟨(l.getD (i - 1) Fx.nil, l.getD i Fx.nil), ⟨by simp, trivial⟩, ⟨_, rfl⟩, ?_⟩⟩⟩⟩
   rintro _ rfl
   refine ⟨fun h => ?_, fun h => ⟨by omega, fun _ => ?_⟩⟩
   ·have h := of_decide_eq_true h
    rw [Jn (z := Fx.nil) (j := i - 1) (by omega) (by rw [e2]; simp only at h; omega)] at hq
    exact RetR.scal hq rfl (by simp [resV])
   ·have h := of_decide_eq_false h
    rw [if_pos trivial]
    refine ⟨⟨i + 1, by omega, .inl hlt, fun j hj => ?_⟩, by show l.length - (i + 1) < l.length - i; omega, by simp [SOdF, fxS, za], by simp, by kernel_rfl, Nat.zero_le _⟩
    rcases Nat.lt_or_ge (j + 1) i with h1 | h1
    ·exact hib j h1
    ·have : j = i - 1 := by omega
     rw [this, e2]; simp only at h; omega
  ·have hge : l.length ≤ i := by have := of_decide_eq_false hge; omega
   rw [uE (z := Fx.nil) fun j hj => hib j (by omega)] at hq
   exact RetR.scal hq rfl (by simp [resV])
def zcw : Ctr := ctrP true (fun l : List Ch => [chS l, .fn 48 [] []]) (fun l => l.length < 2 ^ 40) (fun l r => r = ordB cmpC Ch.nil l) (fun _ (r : Bool) => (.bool r, []))
def SOdC (l : List Ch) (i : Nat) : KV := [(0, chS l), (1, .fn 48 [] []), (5, .int .i64 (i : Int))]
noncomputable def GE4C : Nat → Option Ctr := fun f => if f = 48 then some (xF) else none
theorem Kh : ∀ g c, GE4C g = some c → zb Tryd.prog g c := okIf kY (zn)
theorem zb6 : zb Tryd.prog 47 zcw := by
 refine ze (fn := Tryd.f47) (c := Tryd.f47.body.getD .skip) rfl rfl rfl fun l hl O w0 Q hq => ?_
 replace hq := hq _ rfl
 refine zc.run hmix Kh [0, 1, 5] 400 (T := .leaf (.loop (Prod.fst (lps K47 0)) (Prod.snd (lps K47 0)) [(0, .sl l.length 4 (chG l)), (1, .fn 48 [] []), (5, .int .i64 1)] [])) (by kernel_rfl) ?_
 simp only [Tree.holds, zd]
 refine zc.loop (ι := {i : Nat // 0 < i ∧ (i ≤ l.length ∨ i = 1) ∧ ∀ j, j + 1 < i → cmpC (l.getD j Ch.nil) (l.getD (j + 1) Ch.nil) < 0}) (fun i => SOdC l i.1) (fun _ => []) (fun i => l.length - i.1) ⟨1, Nat.one_pos, .inr rfl, fun j hj => by omega⟩ 0 ?_ ?_ (by kernel_rfl)
 ·exact ⟨by simp [SOdC, chS, za], by simp, by kernel_rfl, Nat.zero_le _⟩
 ·rintro ⟨i, hi0, hil, hib⟩
  refine zc.run hmix Kh [0, 1, 5] 400 (T := .ite (decide ((↑i : Int) < l.length)) (.side (inR .i64 ((↑i : Int) - (1 : Int))) (.side ((0 : Int) ≤ i - (1 : Int) ∧ (↑i : Int) - (1 : Int) < l.length) (.side ((0 : Int) ≤ i ∧ (↑i : Int) < l.length) (.ex (fun (x : Ch × Ch) => eqL [AV.agg [AV.str (Ch.zo (List.getD l (Int.toNat ((↑i : Int) - (1 : Int))) Ch.nil)), AV.str (Ch.name (List.getD l (Int.toNat ((↑i : Int) - (1 : Int))) Ch.nil)), AV.int .i64 (Ch.date (List.getD l (Int.toNat ((↑i : Int) - (1 : Int))) Ch.nil)), AV.bool (Ch.first (List.getD l (Int.toNat ((↑i : Int) - (1 : Int))) Ch.nil))], AV.agg [AV.str (Ch.zo (List.getD l (Int.toNat (↑i : Int)) Ch.nil)), AV.str (Ch.name (List.getD l (Int.toNat (↑i : Int)) Ch.nil)), AV.int .i64 (Ch.date (List.getD l (Int.toNat (↑i : Int)) Ch.nil)), AV.bool (Ch.first (List.getD l (Int.toNat (↑i : Int)) Ch.nil))]] [AV.agg [AV.str x.1.zo, AV.str x.1.name, AV.int .i64 x.1.date, AV.bool x.1.first], AV.agg [AV.str x.2.zo, AV.str x.2.name, AV.int .i64 x.2.date, AV.bool x.2.first]] ∧ True) fun n => .all (fun (r : Int) => r = cmpC n.1 n.2) fun n => .ite (decide ((0 : Int) ≤ n)) (.leaf (.ret [.bool false] [])) (.side (inR .i64 ((↑i : Int) + (1 : Int))) (.leaf (.back 0 [(0, .sl l.length 4 (chG l)), (1, .fn 48 [] []), (5, .int .i64 ((↑i : Int) + (1 : Int)))] []))))))) (.leaf (.ret [.bool true] []))) (by kernel_rfl) ?_
  simp only [Tree.holds, zd, inR, lo, hi, Int.toNat_natCast]
  have e : ((i : Int) - 1).toNat = i - 1 := by omega
  have e2 : i - 1 + 1 = i := by omega
  refine ⟨fun hlt => ?_, fun hge => ?_⟩
  ·have hlt : i < l.length := by have := of_decide_eq_true hlt; omega
   simp only [e]
   refine ⟨by omega, fun _ => ⟨by omega, fun _ => ⟨by omega, fun _ => ⟨(l.getD (i - 1) Ch.nil, l.getD i Ch.nil), ⟨by simp, trivial⟩, ⟨_, rfl⟩, ?_⟩⟩⟩⟩
   rintro _ rfl
   refine ⟨fun h => ?_, fun h => ⟨by omega, fun _ => ?_⟩⟩
   ·have h := of_decide_eq_true h
    rw [Jn (z := Ch.nil) (j := i - 1) (by omega) (by rw [e2]; simp only at h; omega)] at hq
    exact RetR.scal hq rfl (by simp [resV])
   ·have h := of_decide_eq_false h
    rw [if_pos trivial]
    refine ⟨⟨i + 1, by omega, .inl hlt, fun j hj => ?_⟩, by show l.length - (i + 1) < l.length - i; omega, by simp [SOdC, chS, za], by simp, by kernel_rfl, Nat.zero_le _⟩
    rcases Nat.lt_or_ge (j + 1) i with h1 | h1
    ·exact hib j h1
    ·have : j = i - 1 := by omega
     rw [this, e2]; simp only at h; omega
  ·have hge : l.length ≤ i := by have := of_decide_eq_false hge; omega
   rw [uE (z := Ch.nil) fun j hj => hib j (by omega)] at hq
   exact RetR.scal hq rfl (by simp [resV])
def envP (p : List Fx × List Ch) : Prop := p.1.length < 2 ^ 40 ∧ p.2.length < 2 ^ 40 ∧ (∀ j, j < p.1.length → ji (p.1.getD j Fx.nil)) ∧ ∀ j, j < p.2.length → vG (p.2.getD j Ch.nil)
def QG : Ctr := ctrP true (fun p : List Fx × List Ch => [envA p.1 p.2]) envP (fun p r => r = errE p.1 p.2) (fun _ (r : Int) => (.int .i64 r, []))
noncomputable def GE5 : Nat → Option Ctr := fun f => if f = 44 then some (zce) else if f = 45 then some (zci) else if f = 46 then some (zcj) else if f = 47 then some (zcw) else none
theorem ze6 : ∀ g c, GE5 g = some c → zb Tryd.prog g c := okIf zax (okIf zc9 (okIf zak (okIf zb6 (zn))))
theorem Z8 : zb Tryd.prog 21 QG := by
 refine ze (fn := Tryd.f21) (c := Tryd.f21.body.getD .skip) rfl rfl rfl fun p hp O w0 Q hq => ?_
 obtain ⟨f, c⟩ := p
 obtain ⟨h1, h2, h3, h4⟩ := hp
 replace hq := hq _ rfl
 simp only at hq h1 h2 h3 h4
 refine zc.run hmix ze6 [] 400 (T := .ite (bif decide ((1000 : Int) < f.length) then true else decide ((1000 : Int) < c.length)) (.leaf (.ret [.int .i64 4] [.box [.sl f.length 3 (fxG f), .sl c.length 4 (chG c)]])) (.ex (fun (x : List Fx) => eqL [AV.sl f.length 3 (fxG f), AV.fn 42 [] []] [AV.sl x.length 3 (fxG x), AV.fn 42 [] []] ∧ x.length < 1099511627776 ∧ ∀ (j : Nat), j < x.length → ji (x.getD j Fx.nil)) fun n => .all (fun (r : Bool) => r = List.any n fun (x : Fx) => !okF x) fun n => .ex (fun (x : List Ch) => n = false → eqL [AV.sl c.length 4 (chG c), AV.fn 43 [] []] [AV.sl x.length 4 (chG x), AV.fn 43 [] []] ∧ x.length < 1099511627776 ∧ ∀ (j : Nat), j < x.length → vG (x.getD j Ch.nil)) fun n_1 => .all (fun (x : Bool) => n = false → x = List.any n_1 fun (x : Ch) => !okC x) fun n_2 => .ex (fun (x : List Fx) => (bif n then true else n_2) = false → eqL [AV.sl f.length 3 (fxG f), AV.fn 38 [] []] [AV.sl x.length 3 (fxG x), AV.fn 38 [] []] ∧ x.length < 1099511627776) fun n_3 => .all (fun (x : Bool) => (bif n then true else n_2) = false → x = ordB cmpF Fx.nil n_3) fun n_4 => .ex (fun (x : List Ch) => (bif bif n then true else n_2 then true else !n_4) = false → eqL [AV.sl c.length 4 (chG c), AV.fn 48 [] []] [AV.sl x.length 4 (chG x), AV.fn 48 [] []] ∧ x.length < 1099511627776) fun n_5 => .all (fun (x : Bool) => (bif bif n then true else n_2 then true else !n_4) = false → x = ordB cmpC Ch.nil n_5) fun n_6 => .ite (bif bif bif n then true else n_2 then true else !n_4 then true else !n_6) (.leaf (.ret [.int .i64 8] [.box [.sl f.length 3 (fxG f), .sl c.length 4 (chG c)]])) (.leaf (.ret [.int .i64 0] [.box [.sl f.length 3 (fxG f), .sl c.length 4 (chG c)]])))) (by kernel_rfl) ?_
 simp only [Tree.holds, zd]
 refine ⟨fun h => ?_, fun h => ?_⟩
 ·have h : 1000 < f.length ∨ 1000 < c.length := by
   rw [Bool.cond_eq_ite] at h
   split at h
   ·rename_i h1; left; have := of_decide_eq_true h1; omega
   ·right; have := of_decide_eq_true h; omega
  have : errE f c = 4 := if_pos h
  rw [this] at hq; exact RetR.scal hq rfl (by simp [resV])
 ·have h : ¬ (1000 < f.length ∨ 1000 < c.length) := by
   rw [Bool.cond_eq_ite] at h
   split at h
   ·cases h
   ·rename_i h1
    have h2 := of_decide_eq_false h
    rintro (h3 | h3)
    ·exact h1 (decide_eq_true (by omega))
    ·omega
  have he : errE f c = if (f.all okF && c.all okC && ordB cmpF Fx.nil f && ordB cmpC Ch.nil c) = true then 0 else 8 := if_neg h
  have a1 : (f.any fun x => !okF x) = !f.all okF := by rw [List.not_all_eq_any_not]
  have a2 : (c.any fun x => !okC x) = !c.all okC := by rw [List.not_all_eq_any_not]
  refine ⟨f, ⟨by simp [za], h1, h3⟩, ⟨_, rfl⟩, ?_⟩
  rintro _ rfl
  refine ⟨c, fun _ => ⟨by simp [za], h2, h4⟩, ⟨_, fun _ => rfl⟩, ?_⟩
  intro b1 g1
  refine ⟨f, fun _ => ⟨by simp [za], h1⟩, ⟨_, fun _ => rfl⟩, ?_⟩
  intro b2 g2
  refine ⟨c, fun _ => ⟨by simp [za], h2⟩, ⟨_, fun _ => rfl⟩, ?_⟩
  intro b3 g3
  rw [a1] at g1 g2 g3 ⊢
  rw [a2] at g1
  clear a1 a2
  generalize f.all okF = p1 at *
  generalize c.all okC = p2 at *
  generalize ordB cmpF Fx.nil f = p3 at *
  generalize ordB cmpC Ch.nil c = p4 at *
  have key : (bif bif bif !p1 then true else b1 then true else !b2 then true else !b3) = !(p1 && p2 && p3 && p4) := by
   cases p1 with
   | false => rfl
   | true =>
    have g1 := g1 rfl
    subst g1
    cases p2 with
    | false => rfl
    | true =>
     have g2 := g2 rfl
     subst g2
     cases b2 with
     | false => rfl
     | true => have g3 := g3 rfl; subst g3; rfl
  rw [key]
  clear key g1 g2 g3
  generalize (p1 && p2 && p3 && p4) = q at *
  refine ⟨fun h => ?_, fun h => ?_⟩
  ·cases q with
   | true => cases h
   | false => rw [he, if_neg (by decide)] at hq; exact RetR.scal hq rfl (by simp [resV])
  ·cases q with
   | false => cases h
   | true => rw [he, if_pos rfl] at hq; exact RetR.scal hq rfl (by simp [resV])
end Go.Proofs.Tryd
end

/- What is known: the reference's checks. -/
section
set_option maxRecDepth 100000
open Go Go.Sx Go.Proofs Go.Nov
namespace Go.Proofs.Tryd
attribute [local simp] eqKV eqA eqA0 eqH eqB eqL eqL0
end Go.Proofs.Tryd
end

/- What is known: the reference's checks, finding, copies. -/
section
set_option maxRecDepth 100000
open Go Go.Sx Go.Proofs Go.Nov
namespace Go.Proofs.Tryd
attribute [local simp] eqKV eqA eqA0 eqH eqB eqL eqL0
def HE (f : List Fx) (c : List Ch) : Heap := [.box [fxS f, chS c]]
def zcg : Ctr := ctrP true (fun p : (List Fx × List Ch) × (List UInt8 × Int) => [envA p.1.1 p.1.2, .str p.2.1, .int .i64 p.2.2]) (fun p => p.1.1.length < 2 ^ 40) (fun p r => r = j5 p.1.1 p.2.1 p.2.2) (fun _ r => (.tup [.str r.1, .bool r.2], []))
end Go.Proofs.Tryd
end

/- Lists of what is known, as slices: pushed, set, put in between. -/
section
namespace Go.Nov
open Go.Sx
theorem Fx.xS (x : Fx) {j o : Nat} (hj : j < 1) (ho : o < 3) : zg (zj 3 [.str x.name, .int .i64 x.date, .str x.value]) 0 j o = x.cell o := by
 have : j = 0 := by omega
 subst this
 rcases o with _ | _ | _ | o
 ·rfl
 ·rfl
 ·rfl
 ·omega
theorem Ch.xS (x : Ch) {j o : Nat} (hj : j < 1) (ho : o < 4) : zg (zj 4 [.str x.zo, .str x.name, .int .i64 x.date, .bool x.first]) 0 j o = x.cell o := by
 have : j = 0 := by omega
 subst this
 rcases o with _ | _ | _ | _ | o
 ·rfl
 ·rfl
 ·rfl
 ·rfl
 ·omega
theorem Qb {α : Type} (l : List α) (x z : α) (j : Nat) : (l ++ [x]).getD j z = if j < l.length then l.getD j z else if j = l.length then x else z := by
 simp only [List.getD, List.getElem?_append]
 split
 ·rfl
 ·rename_i h
  split
  ·rename_i h2; subst h2; simp
  ·rename_i h2
   have : j - l.length ≠ 0 := by omega
   obtain ⟨k, hk⟩ := Nat.exists_eq_succ_of_ne_zero this
   rw [hk]; simp
theorem zeb {l : List Fx} {x : Fx} {k : Nat} (hk : k < l.length) : eqG l.length 3 (updG (fxG l) k 0 [.str x.name, .int .i64 x.date, .str x.value]) (fxG (l.set k x)) := by
 intro j o hj ho
 simp only [updG, fxG]
 by_cases h : j = k
 ·subst h
  rw [if_pos ⟨rfl, Nat.zero_le _, by simpa using ho⟩]
  have : (l.set j x).getD j Fx.nil = x := by simp [List.getD, hk]
  rw [this]
  rcases o with _ | _ | _ | o
  ·rfl
  ·rfl
  ·rfl
  ·omega
 ·rw [if_neg (fun h2 => h h2.1)]
  have : (l.set k x).getD j Fx.nil = l.getD j Fx.nil := by simp [List.getD, List.getElem?_set, Ne.symm h]
  rw [this]
theorem ze1 {l : List Ch} {x : Ch} {k : Nat} (hk : k < l.length) : eqG l.length 4 (updG (chG l) k 0 [.str x.zo, .str x.name, .int .i64 x.date, .bool x.first]) (chG (l.set k x)) := by
 intro j o hj ho
 simp only [updG, chG]
 by_cases h : j = k
 ·subst h
  rw [if_pos ⟨rfl, Nat.zero_le _, by simpa using ho⟩]
  have : (l.set j x).getD j Ch.nil = x := by simp [List.getD, hk]
  rw [this]
  rcases o with _ | _ | _ | _ | o
  ·rfl
  ·rfl
  ·rfl
  ·rfl
  ·omega
 ·rw [if_neg (fun h2 => h h2.1)]
  have : (l.set k x).getD j Ch.nil = l.getD j Ch.nil := by simp [List.getD, List.getElem?_set, Ne.symm h]
  rw [this]
theorem xn (n sz : Nat) (g g' : Nat → Nat → AV) : eqG (0 + n) sz (appG 0 g g') g' := by
 intro j o _ _
 simp [appG]
theorem wm (n sz : Nat) (g : Nat → Nat → AV) : eqG n sz (zg g 0) g := by
 intro j o _ _
 simp [zg]
theorem za1 (l : List Fx) (j o : Nat) (ho : o < 3) : zK (fxG l j o) = true := by
 simp only [fxG]
 rcases o with _ | _ | _ | o
 ·rfl
 ·rfl
 ·rfl
 ·omega
theorem zab (l : List Ch) (j o : Nat) (ho : o < 4) : zK (chG l j o) = true := by
 simp only [chG]
 rcases o with _ | _ | _ | _ | o
 ·rfl
 ·rfl
 ·rfl
 ·rfl
 ·omega
theorem xU {α : Type} {p : α → Bool} (z : α) (l : List α) : idxB p l < l.length ∧ l.find? p = if 0 ≤ idxB p l then some (l.getD (idxB p l).toNat z) else none := by
 unfold idxB
 by_cases h : l.findIdx p < l.length
 ·rw [if_pos h]
  refine ⟨by omega, ?_⟩
  rw [if_pos (by omega), Int.toNat_natCast]
  refine zbg h ?_ fun j hj => ?_
  ·have := List.findIdx_getElem (w := h)
   simpa [List.getD, h] using this
  ·have := List.not_of_lt_findIdx hj
   have hjl : j < l.length := by omega
   simpa [List.getD, hjl] using this
 ·rw [if_neg h]
  refine ⟨by omega, ?_⟩
  rw [if_neg (by omega), List.find?_eq_none]
  intro x hx hpx
  exact h (List.findIdx_lt_length_of_exists ⟨x, hx, hpx⟩)
theorem XO (f : List Fx) (a : List UInt8) (d : Int) : idxB (fun x => decide (cmpF x ⟨a, d, []⟩ = 0)) f < f.length ∧ j5 f a d = if 0 ≤ idxB (fun x => decide (cmpF x ⟨a, d, []⟩ = 0)) f then ((f.getD (idxB (fun x => decide (cmpF x ⟨a, d, []⟩ = 0)) f).toNat Fx.nil).value, true) else ([], false) := by
 obtain ⟨h1, h2⟩ := xU (p := fun x => decide (cmpF x ⟨a, d, []⟩ = 0)) Fx.nil f
 refine ⟨h1, ?_⟩
 have e : (fun x : Fx => decide (x.name = a) && decide (x.date = d)) = fun x => decide (cmpF x ⟨a, d, []⟩ = 0) := by
  funext x
  rw [← Bool.decide_and]; exact decide_eq_decide.2 (@jU x ⟨a, d, []⟩).symm
 unfold j5
 rw [e, h2]
 by_cases h : 0 ≤ idxB (fun x => decide (cmpF x ⟨a, d, []⟩ = 0)) f
 ·rw [if_pos h, if_pos h]
 ·rw [if_neg h, if_neg h]
end Go.Nov
end

/- What is known: the reference's copies and places. -/
section
set_option maxRecDepth 100000
open Go Go.Sx Go.Proofs Go.Nov
namespace Go.Proofs.Tryd
attribute [local simp] eqKV eqA eqA0 eqH eqB eqL eqL0
theorem Jj {n : Nat} {g : Nat → Nat → AV} {l : List Fx} (h : eqG n 3 g (fxG l)) : newB (.arr n 3 g) := fun j o hj ho => by rw [h j o hj ho]; exact za1 l j o ho
theorem QM {n : Nat} {g : Nat → Nat → AV} {l : List Ch} (h : eqG n 4 g (chG l)) : newB (.arr n 4 g) := fun j o hj ho => by rw [h j o hj ho]; exact zab l j o ho
end Go.Proofs.Tryd
end

/- What is known: size; the code's finding. -/
section
set_option maxRecDepth 100000
open Go Go.Sx Go.Proofs Go.Nov
namespace Go.Proofs.Tryd
attribute [local simp] eqKV eqA eqA0 eqH eqB eqL eqL0
noncomputable def K9 : List Go.Sx.Item := [.code (Tryd.f9.body.getD .skip)]
def JL (f : Fx) : Prop := f.name.length < 2 ^ 49 ∧ f.value.length < 2 ^ 49
def VQ (c : Ch) : Prop := c.zo.length < 2 ^ 49 ∧ c.name.length < 2 ^ 49
def fitP (p : List Fx × List Ch) : Prop := p.1.length ≤ 1100 ∧ p.2.length ≤ 1100 ∧ (∀ j, j < p.1.length → (p.1.getD j Fx.nil).name.length ≤ 20000 ∧ (p.1.getD j Fx.nil).value.length ≤ 20000) ∧ ∀ j, j < p.2.length → (p.2.getD j Ch.nil).zo.length ≤ 20000 ∧ (p.2.getD j Ch.nil).name.length ≤ 20000
def V4 : Ctr := ctrP true (fun p : List Fx × List Ch => [envA p.1 p.2]) (fun p => p.1.length < 2 ^ 60 ∧ p.2.length < 2 ^ 60 ∧ (∀ j, j < p.1.length → JL (p.1.getD j Fx.nil)) ∧ ∀ j, j < p.2.length → VQ (p.2.getD j Ch.nil)) (fun p r => r = false → fitP p) (fun _ (r : Bool) => (.bool r, []))
def SGq (n i : Nat) : KV := [(1, .ptr 0 0), (3, .int .i64 (n : Int)), (4, .int .i64 (i : Int)), (5, .undef)]
def SGq2 (n i : Nat) : KV := [(1, .ptr 0 0), (3, .int .i64 (n : Int)), (4, .undef), (5, .int .i64 (i : Int))]
theorem Jr {O : Nat → Prop} {w0 : World} {Q : AV × Heap → Prop} {Hs : Nat → KV → Heap → Prop} (f : List Fx) (c : List Ch) (n : Nat) (hf : f.length ≤ 1100) (hc : c.length ≤ 1100) (h3 : ∀ j, j < c.length → VQ (c.getD j Ch.nil)) (hn : n ≤ 1100 * 2 ^ 50) (hnf : ∀ j, j < f.length → (f.getD j Fx.nil).name.length ≤ n ∧ (f.getD j Fx.nil).value.length ≤ n)
  (hq : ∀ r : Bool, (r = false → fitP (f, c)) → Q (.bool r, [])) (kv : KV) (h : Heap) (hle : LeK 0 Tryd.f9.ntmps kv h (SGq2 n 0) (HE f c)) :
  zc Tryd.prog Tryd.f9 O 0 w0 [] Hs (RetR V4 0 Q) (.code (.loop (lps (inside K9 0) 0).1) :: (lps (inside K9 0) 0).2) (mk Tryd.f9.ntmps kv h) := by
 refine zc.loop (ι := {p : Nat × Nat // p.2 ≤ c.length ∧ n ≤ p.1 ∧ p.1 ≤ (1100 + p.2) * 2 ^ 50 ∧ ∀ j, j < p.2 → (c.getD j Ch.nil).zo.length ≤ p.1 ∧ (c.getD j Ch.nil).name.length ≤ p.1}) (fun p => SGq2 p.1.1 p.1.2) (fun _ => HE f c) (fun p => c.length - p.1.2) ⟨(n, 0), Nat.zero_le _, Nat.le_refl _, by simpa using hn, fun j hj => by simp at hj⟩ 0 hle ?_ (by kernel_rfl)
 rintro ⟨⟨m, i⟩, hil, hnm, hm, hib⟩
 simp only at hil hnm hm hib
 refine zc.run hmix zD [1, 3, 4, 5] 400 (T := .ite (decide ((↑i : Int) < c.length)) (.side ((0 : Int) ≤ i ∧ (↑i : Int) < c.length) (.side (inR .i64 ((↑m : Int) + (↑(List.length (Ch.zo (List.getD c (Int.toNat (↑i : Int)) Ch.nil))) : Int))) (.side ((0 : Int) ≤ i ∧ (↑i : Int) < c.length) (.side (inR .i64 ((↑m : Int) + (↑(List.length (Ch.zo (List.getD c (Int.toNat (↑i : Int)) Ch.nil))) : Int) + (↑(List.length (Ch.name (List.getD c (Int.toNat (↑i : Int)) Ch.nil))) : Int))) (.side (inR .i64 ((↑i : Int) + (1 : Int))) (.leaf (.back 0 [(1, .ptr 0 0), (3, .int .i64 ((↑m : Int) + (↑(List.length (Ch.zo (List.getD c (Int.toNat (↑i : Int)) Ch.nil))) : Int) + (↑(List.length (Ch.name (List.getD c (Int.toNat (↑i : Int)) Ch.nil))) : Int))), (4, .undef), (5, .int .i64 ((↑i : Int) + (1 : Int)))] [.box [.sl f.length 3 (fxG f), .sl c.length 4 (chG c)]]))))))) (.leaf (.ret [.bool (decide ((20000 : Int) < m))] [.box [.sl f.length 3 (fxG f), .sl c.length 4 (chG c)]]))) (by kernel_rfl) ?_
 simp only [Tree.holds, zd, inR, lo, hi, Int.toNat_natCast]
 refine ⟨fun hlt => ?_, fun hge => ?_⟩
 ·have hlt : i < c.length := by have := of_decide_eq_true hlt; omega
  obtain ⟨g1, g2⟩ := h3 i hlt
  iterate 5 refine ⟨by omega, fun _ => ?_⟩
  rw [if_pos trivial]
  refine ⟨⟨(m + (c.getD i Ch.nil).zo.length + (c.getD i Ch.nil).name.length, i + 1), hlt, by simp only; omega, by simp only; omega, fun j hj => ?_⟩, by show c.length - (i + 1) < c.length - i; omega, by simp [SGq2], by simp [HE, fxS, chS, za], by kernel_rfl, Nat.zero_le _⟩
  simp only at hj ⊢
  rcases Nat.lt_or_ge j i with h1 | h1
  ·have := hib j h1; omega
  ·have : j = i := by omega
   rw [this]; omega
 ·have hge : i = c.length := by have := of_decide_eq_false hge; omega
  subst hge
  refine RetR.scal (hq (decide (20000 < (m : Int))) fun h => ?_) rfl (by simp [resV])
  have h := of_decide_eq_false h
  exact ⟨hf, hc, fun j hj => by have := hnf j hj; simp only; omega, fun j hj => by have := hib j hj; simp only; omega⟩
theorem XX : zb Tryd.prog 9 V4 := by
 refine ze (fn := Tryd.f9) (c := Tryd.f9.body.getD .skip) rfl rfl rfl fun p hp O w0 Q hq => ?_
 obtain ⟨f, c⟩ := p
 obtain ⟨h1, h2, h3, h4⟩ := hp
 simp only at hq h1 h2 h3 h4
 refine zc.run hmix zD [1, 3, 4, 5] 400 (T := .ite (bif decide ((1100 : Int) < f.length) then true else decide ((1100 : Int) < c.length)) (.leaf (.ret [.bool true] [.box [.sl f.length 3 (fxG f), .sl c.length 4 (chG c)]])) (.leaf (.loop (Prod.fst (lps K9 0)) (Prod.snd (lps K9 0)) [(1, .ptr 0 0), (3, .int .i64 0), (4, .int .i64 0), (5, .undef)] [.box [.sl f.length 3 (fxG f), .sl c.length 4 (chG c)]]))) (by kernel_rfl) ?_
 simp only [Tree.holds, zd]
 refine ⟨fun h => ?_, fun h => ?_⟩
 ·exact RetR.scal (hq true fun h => (by cases h)) rfl (by simp [resV])
 ·have hbig : f.length ≤ 1100 ∧ c.length ≤ 1100 := by
   rw [Bool.cond_eq_ite] at h
   split at h
   ·cases h
   ·rename_i g1
    have g2 := of_decide_eq_false h
    have g1 := of_decide_eq_false (by simpa using g1 : decide (1100 < (f.length : Int)) = false)
    omega
  obtain ⟨hf, hc⟩ := hbig
  refine zc.loop (ι := {p : Nat × Nat // p.2 ≤ f.length ∧ p.1 ≤ p.2 * 2 ^ 50 ∧ ∀ j, j < p.2 → (f.getD j Fx.nil).name.length ≤ p.1 ∧ (f.getD j Fx.nil).value.length ≤ p.1}) (fun p => SGq p.1.1 p.1.2) (fun _ => HE f c) (fun p => f.length - p.1.2) ⟨(0, 0), Nat.zero_le _, by simp, fun j hj => by simp at hj⟩ 0 ?_ ?_ (by kernel_rfl)
  ·exact ⟨by simp [SGq], by simp [HE, fxS, chS, za], by kernel_rfl, Nat.zero_le _⟩
  ·rintro ⟨⟨m, i⟩, hil, hm, hib⟩
   simp only at hil hm hib
   refine zc.run hmix zD [1, 3, 4, 5] 400 (T := .ite (decide ((↑i : Int) < f.length)) (.side ((0 : Int) ≤ i ∧ (↑i : Int) < f.length) (.side (inR .i64 ((↑m : Int) + (↑(List.length (Fx.name (List.getD f (Int.toNat (↑i : Int)) Fx.nil))) : Int))) (.side ((0 : Int) ≤ i ∧ (↑i : Int) < f.length) (.side (inR .i64 ((↑m : Int) + (↑(List.length (Fx.name (List.getD f (Int.toNat (↑i : Int)) Fx.nil))) : Int) + (↑(List.length (Fx.value (List.getD f (Int.toNat (↑i : Int)) Fx.nil))) : Int))) (.side (inR .i64 ((↑i : Int) + (1 : Int))) (.leaf (.back 0 [(1, .ptr 0 0), (3, .int .i64 ((↑m : Int) + (↑(List.length (Fx.name (List.getD f (Int.toNat (↑i : Int)) Fx.nil))) : Int) + (↑(List.length (Fx.value (List.getD f (Int.toNat (↑i : Int)) Fx.nil))) : Int))), (4, .int .i64 ((↑i : Int) + (1 : Int))), (5, .undef)] [.box [.sl f.length 3 (fxG f), .sl c.length 4 (chG c)]]))))))) (.leaf (.loop (Prod.fst (lps (inside K9 0) 0)) (Prod.snd (lps (inside K9 0) 0)) [(1, .ptr 0 0), (3, .int .i64 m), (4, .int .i64 i), (5, .int .i64 0)] [.box [.sl f.length 3 (fxG f), .sl c.length 4 (chG c)]]))) (by kernel_rfl) ?_
   simp only [Tree.holds, zd, inR, lo, hi, Int.toNat_natCast]
   refine ⟨fun hlt => ?_, fun hge => ?_⟩
   ·have hlt : i < f.length := by have := of_decide_eq_true hlt; omega
    obtain ⟨g1, g2⟩ := h3 i hlt
    iterate 5 refine ⟨by omega, fun _ => ?_⟩
    rw [if_pos trivial]
    refine ⟨⟨(m + (f.getD i Fx.nil).name.length + (f.getD i Fx.nil).value.length, i + 1), hlt, by simp only; omega, fun j hj => ?_⟩, by show f.length - (i + 1) < f.length - i; omega, by simp [SGq], by simp [HE, fxS, chS, za], by kernel_rfl, Nat.zero_le _⟩
    simp only at hj ⊢
    rcases Nat.lt_or_ge j i with h1 | h1
    ·have := hib j h1; omega
    ·have : j = i := by omega
     rw [this]; omega
   ·have hge : i = f.length := by have := of_decide_eq_false hge; omega
    subst hge
    exact Jr f c m hf hc h4 (Nat.le_trans hm (Nat.mul_le_mul_right _ hf)) hib hq _ _ ⟨by simp [SGq2], by simp [HE, fxS, chS, za], by kernel_rfl, Nat.zero_le _⟩
def Qt : Ctr := ctrP true (fun l : List Fx => [fxS l]) (fun l => l.length < 2 ^ 40) (fun _ (_ : Unit) => True) (fun l _ => (.osl 0 3 0 l.length, [.arr l.length 3 (fxG l)]))
def Qu : Ctr := ctrP true (fun l : List Ch => [chS l]) (fun l => l.length < 2 ^ 40) (fun _ (_ : Unit) => True) (fun l _ => (.osl 0 4 0 l.length, [.arr l.length 4 (chG l)]))
theorem ZT : zb Tryd.prog 50 Qt := by
 refine yR (fn := Tryd.f50) (c := Tryd.f50.body.getD .skip) rfl rfl rfl fun l hl O w0 Q hq => ?_
 replace hq := hq () trivial
 refine zc.run hmix zD [] 400 (T := .all (fun (b : Bool) => 0 < l.length → b = false) fun n => .ite n (.leaf (.ret [.nils] [])) (.side (0 = 0 ∧ 0 ≤ 0 ∧ (0 + l.length) * 40 ≤ 140737488355328) (.leaf (.ret [.osl 0 3 0 (0 + l.length)] [.arr (0 + l.length) 3 (appG 0 (zj 3 []) (fxG l))])))) (by kernel_rfl) ?_
 simp only [Tree.holds, zd]
 refine ⟨⟨false, fun _ => rfl⟩, fun b hb => ⟨fun h => ?_, fun h => ⟨⟨trivial, Nat.le_refl _, by omega⟩, fun _ => ?_⟩⟩⟩
 ·have h0 : l = [] := by
   rcases Nat.eq_zero_or_pos l.length with h0 | h0
   ·exact List.length_eq_zero_iff.1 h0
   ·rw [hb h0] at h; cases h
  subst h0
  refine RetR.scal (.inr ⟨.osl 0 3 0 0, [(3, fxG [])], by simp [upA2, upA1, upA0], ?_⟩) (r := .nils) rfl (by simp [resV])
  exact hq
 ·refine RetR.outs [0] rfl rfl (.inl hq) (fun _ => ⟨?_, ?_⟩) ?_ ?_ rfl
  ·simp [resV, new2, new1, new0, z5]
  ·simp only [List.mem_cons, List.not_mem_nil, or_false, forall_eq]
   exact Jj (xn _ _ _ _)
  ·simp [resV, exp2, exp1, exp0, z5, eqA2, eqL1]
  ·exact ⟨⟨by omega, rfl, xn _ _ _ _⟩, trivial⟩
theorem Z0 : zb Tryd.prog 39 Qu := by
 refine yR (fn := Tryd.f39) (c := Tryd.f39.body.getD .skip) rfl rfl rfl fun l hl O w0 Q hq => ?_
 replace hq := hq () trivial
 refine zc.run hmix zD [] 400 (T := .all (fun (b : Bool) => 0 < l.length → b = false) fun n => .ite n (.leaf (.ret [.nils] [])) (.side (0 = 0 ∧ 0 ≤ 0 ∧ (0 + l.length) * 48 ≤ 140737488355328) (.leaf (.ret [.osl 0 4 0 (0 + l.length)] [.arr (0 + l.length) 4 (appG 0 (zj 4 []) (chG l))])))) (by kernel_rfl) ?_
 simp only [Tree.holds, zd]
 refine ⟨⟨false, fun _ => rfl⟩, fun b hb => ⟨fun h => ?_, fun h => ⟨⟨trivial, Nat.le_refl _, by omega⟩, fun _ => ?_⟩⟩⟩
 ·have h0 : l = [] := by
   rcases Nat.eq_zero_or_pos l.length with h0 | h0
   ·exact List.length_eq_zero_iff.1 h0
   ·rw [hb h0] at h; cases h
  subst h0
  refine RetR.scal (.inr ⟨.osl 0 4 0 0, [(4, chG [])], by simp [upA2, upA1, upA0], ?_⟩) (r := .nils) rfl (by simp [resV])
  exact hq
 ·refine RetR.outs [0] rfl rfl (.inl hq) (fun _ => ⟨?_, ?_⟩) ?_ ?_ rfl
  ·simp [resV, new2, new1, new0, z5]
  ·simp only [List.mem_cons, List.not_mem_nil, or_false, forall_eq]
   exact QM (xn _ _ _ _)
  ·simp [resV, exp2, exp1, exp0, z5, eqA2, eqL1]
  ·exact ⟨⟨by omega, rfl, xn _ _ _ _⟩, trivial⟩
def HIdF (x : Fx) : Heap := [.box [.fn 38 [] []], .box [.str x.name, .int .i64 x.date, .str x.value]]
def HIdC (x : Ch) : Heap := [.box [.fn 48 [] []], .box [.str x.zo, .str x.name, .int .i64 x.date, .bool x.first]]
def zca : Ctr := ctrT false false (fun p : Fx × Fx => [p.1.av, .ptr 0 0, .ptr 1 0]) (fun p => HIdF p.2) (fun _ => True) (fun p r => r = decide (cmpF p.1 p.2 = 0)) (fun p (r : Bool) => (.bool r, HIdF p.2))
def zcn : Ctr := ctrT false false (fun p : Ch × Ch => [p.1.av, .ptr 0 0, .ptr 1 0]) (fun p => HIdC p.2) (fun _ => True) (fun p r => r = decide (cmpC p.1 p.2 = 0)) (fun p (r : Bool) => (.bool r, HIdC p.2))
noncomputable def GI1 : Nat → Option Ctr := fun f => if f = 38 then some (xv) else if f = 48 then some (xF) else none
theorem U4 : ∀ g c, GI1 g = some c → zb Tryd.prog g c := okIf kK (okIf kY (zn))
theorem zb4 : zb Tryd.prog 67 zca := by
 refine zB (fn := Tryd.f67) (c := Tryd.f67.body.getD .skip) rfl rfl rfl (fun h => by cases h) fun p hp O w0 σ0 Q hl0 hq => ?_
 obtain ⟨⟨a, d, v⟩, ⟨b, e, u⟩⟩ := p
 replace hq := hq _ rfl
 simp only at hq
 refine zc.run hmix U4 [] 400 (T := .ex (fun (x : Fx × Fx) => eqL [AV.agg [AV.str a, AV.int .i64 d, AV.str v], AV.agg [AV.str b, AV.int .i64 e, AV.str u]] [AV.agg [AV.str x.1.name, AV.int .i64 x.1.date, AV.str x.1.value], AV.agg [AV.str x.2.name, AV.int .i64 x.2.date, AV.str x.2.value]] ∧ True) fun n => .all (fun (r : Int) => r = cmpF n.1 n.2) fun n => .leaf (.ret [.bool (decide (n = 0))] [.box [.fn 38 [] []], .box [.str b, .int .i64 e, .str u], .box [.str a, .int .i64 d, .str v]])) (by kernel_rfl) ?_
 simp only [Tree.holds, zd]
 refine ⟨(⟨a, d, v⟩, ⟨b, e, u⟩), ⟨by simp, trivial⟩, ⟨_, rfl⟩, ?_⟩
 rintro _ rfl
 exact RetR.keep [0, 1] rfl rfl (by show ∀ j, j < 2 → _; decide) rfl hq (by simp [resV, exp2, exp1, exp0, ren0, eqA2]) (by simp [expH, expB, exp1, exp0, ren0, HIdF]) rfl
theorem zc0 : zb Tryd.prog 70 zcn := by
 refine zB (fn := Tryd.f70) (c := Tryd.f70.body.getD .skip) rfl rfl rfl (fun h => by cases h) fun p hp O w0 σ0 Q hl0 hq => ?_
 obtain ⟨⟨a, v, d, x⟩, ⟨b, u, e, y⟩⟩ := p
 replace hq := hq _ rfl
 simp only at hq
 refine zc.run hmix U4 [] 400 (T := .ex (fun (x_1 : Ch × Ch) => eqL [AV.agg [AV.str a, AV.str v, AV.int .i64 d, AV.bool x], AV.agg [AV.str b, AV.str u, AV.int .i64 e, AV.bool y]] [AV.agg [AV.str x_1.1.zo, AV.str x_1.1.name, AV.int .i64 x_1.1.date, AV.bool x_1.1.first], AV.agg [AV.str x_1.2.zo, AV.str x_1.2.name, AV.int .i64 x_1.2.date, AV.bool x_1.2.first]] ∧ True) fun n => .all (fun (r : Int) => r = cmpC n.1 n.2) fun n => .leaf (.ret [.bool (decide (n = 0))] [.box [.fn 48 [] []], .box [.str b, .str u, .int .i64 e, .bool y], .box [.str a, .str v, .int .i64 d, .bool x]])) (by kernel_rfl) ?_
 simp only [Tree.holds, zd]
 refine ⟨(⟨a, v, d, x⟩, ⟨b, u, e, y⟩), ⟨by simp, trivial⟩, ⟨_, rfl⟩, ?_⟩
 rintro _ rfl
 exact RetR.keep [0, 1] rfl rfl (by show ∀ j, j < 2 → _; decide) rfl hq (by simp [resV, exp2, exp1, exp0, ren0, eqA2]) (by simp [expH, expB, exp1, exp0, ren0, HIdC]) rfl
def SIdF (l : List Fx) (i : Nat) : KV := [(0, fxS l), (1, .fn 67 [] [.ptr 0 0, .ptr 1 0]), (7, .int .i64 (l.length : Int)), (8, .int .i64 (i : Int))]
def SIdC (l : List Ch) (i : Nat) : KV := [(0, chS l), (1, .fn 70 [] [.ptr 0 0, .ptr 1 0]), (7, .int .i64 (l.length : Int)), (8, .int .i64 (i : Int))]
def Ua : Ctr := ctrT false false (fun p : List Fx × Fx => [fxS p.1, .fn 67 [] [.ptr 0 0, .ptr 1 0]]) (fun p => HIdF p.2) (fun p => p.1.length < 2 ^ 40) (fun p r => r = idxB (fun x => decide (cmpF x p.2 = 0)) p.1) (fun p (r : Int) => (.int .i64 r, HIdF p.2))
def UJ : Ctr := ctrT false false (fun p : List Ch × Ch => [chS p.1, .fn 70 [] [.ptr 0 0, .ptr 1 0]]) (fun p => HIdC p.2) (fun p => p.1.length < 2 ^ 40) (fun p r => r = idxB (fun x => decide (cmpC x p.2 = 0)) p.1) (fun p (r : Int) => (.int .i64 r, HIdC p.2))
noncomputable def GI2 : Nat → Option Ctr := fun f => if f = 67 then some (zca) else if f = 70 then some (zcn) else none
theorem QX : ∀ g c, GI2 g = some c → zb Tryd.prog g c := okIf zb4 (okIf zc0 (zn))
theorem zay : zb Tryd.prog 66 Ua := by
 refine zB (fn := Tryd.f66) (c := Tryd.f66.body.getD .skip) rfl rfl rfl (fun h => by cases h) fun p hl O w0 σ0 Q hl0 hq => ?_
 obtain ⟨l, x⟩ := p
 replace hq := hq _ rfl
 simp only at hq hl
 refine zc.run hmix QX [0, 1, 7, 8] 400 (T := .leaf (.loop (Prod.fst (lps K66 0)) (Prod.snd (lps K66 0)) [(0, .sl l.length 3 (fxG l)), (1, .fn 67 [] [.ptr 0 0, .ptr 1 0]), (7, .int .i64 l.length), (8, .int .i64 0)] [.box [.fn 38 [] []], .box [.str x.name, .int .i64 x.date, .str x.value]])) (by kernel_rfl) ?_
 simp only [Tree.holds, zd]
 have fin : ∀ (i : Int) (h : Heap), i = idxB (fun y => decide (cmpF y x = 0)) l → h = HIdF x → RetR Ua 2 Q [.int .i64 i] h := by
  intro i h hi2 hh
  subst hh
  rw [← hi2] at hq
  exact RetR.keep [0, 1] rfl rfl (by show ∀ j, j < 2 → _; decide) rfl hq (by simp [resV, exp2, exp1, exp0, ren0, eqA2]) (by simp [expH, expB, exp1, exp0, ren0, HIdF]) rfl
 refine zc.loop (ι := {i : Nat // i ≤ l.length ∧ ∀ j, j < i → decide (cmpF (l.getD j Fx.nil) x = 0) = false}) (fun i => SIdF l i.1) (fun _ => HIdF x) (fun i => l.length - i.1) ⟨0, Nat.zero_le _, fun j hj => by omega⟩ 0 ?_ ?_ (by kernel_rfl)
 ·exact ⟨by simp [SIdF, fxS, za], by simp [HIdF], by kernel_rfl, Nat.le_refl _⟩
 ·rintro ⟨i, hil, hib⟩
  refine zc.run hmix QX [0, 1, 7, 8] 400 (T := .ite (decide ((↑i : Int) < l.length)) (.side ((0 : Int) ≤ i ∧ (↑i : Int) < l.length) (.ex (fun (x_1 : Fx × Fx) => eqL [AV.agg [AV.str (Fx.name (List.getD l (Int.toNat (↑i : Int)) Fx.nil)), AV.int .i64 (Fx.date (List.getD l (Int.toNat (↑i : Int)) Fx.nil)), AV.str (Fx.value (List.getD l (Int.toNat (↑i : Int)) Fx.nil))], AV.ptr 0 0, AV.ptr 1 0] [AV.agg [AV.str x_1.1.name, AV.int .i64 x_1.1.date, AV.str x_1.1.value], AV.ptr 0 0, AV.ptr 1 0] ∧ eqH [.box [AV.fn 38 [] []], .box [AV.str x.name, AV.int .i64 x.date, AV.str x.value]] [.box [AV.fn 38 [] []], .box [AV.str x_1.2.name, AV.int .i64 x_1.2.date, AV.str x_1.2.value]] ∧ 2 = 2 ∧ True) fun n => .all (fun (r : Bool) => r = decide (cmpF n.1 n.2 = 0)) fun n_1 => .ite n_1 (.leaf (.ret [.int .i64 i] [.box [.fn 38 [] []], .box [.str n.2.name, .int .i64 n.2.date, .str n.2.value]])) (.side (inR .i64 ((↑i : Int) + (1 : Int))) (.leaf (.back 0 [(0, .sl l.length 3 (fxG l)), (1, .fn 67 [] [.ptr 0 0, .ptr 1 0]), (7, .int .i64 l.length), (8, .int .i64 ((↑i : Int) + (1 : Int)))] [.box [.fn 38 [] []], .box [.str n.2.name, .int .i64 n.2.date, .str n.2.value]]))))) (.leaf (.ret [.int .i64 (-1 : Int)] [.box [.fn 38 [] []], .box [.str x.name, .int .i64 x.date, .str x.value]]))) (by kernel_rfl) ?_
  simp only [Tree.holds, zd, inR, lo, hi, Int.toNat_natCast]
  refine ⟨fun hlt => ?_, fun hge => ?_⟩
  ·have hlt : i < l.length := by have := of_decide_eq_true hlt; omega
   refine ⟨by omega, fun _ => ⟨(l.getD i Fx.nil, x), ⟨by simp, by simp, trivial, trivial⟩, ⟨_, rfl⟩, ?_⟩⟩
   rintro _ rfl
   refine ⟨fun h => ?_, fun h => ⟨by omega, fun _ => ?_⟩⟩
   ·exact fin _ _ (yJ hlt h hib).symm rfl
   ·rw [if_pos trivial]
    refine ⟨⟨i + 1, hlt, fun j hj => ?_⟩, by show l.length - (i + 1) < l.length - i; omega, by simp [SIdF, fxS, za], by simp [HIdF], by kernel_rfl, Nat.le_refl _⟩
    rcases Nat.lt_or_ge j i with h1 | h1
    ·exact hib j h1
    ·have : j = i := by omega
     rw [this]; exact h
  ·have hge : i = l.length := by have := of_decide_eq_false hge; omega
   subst hge
   exact fin _ _ (kr (p := fun y => decide (cmpF y x = 0)) hib).symm rfl
theorem zaf : zb Tryd.prog 68 UJ := by
 refine zB (fn := Tryd.f68) (c := Tryd.f68.body.getD .skip) rfl rfl rfl (fun h => by cases h) fun p hl O w0 σ0 Q hl0 hq => ?_
 obtain ⟨l, x⟩ := p
 replace hq := hq _ rfl
 simp only at hq hl
 refine zc.run hmix QX [0, 1, 7, 8] 400 (T := .leaf (.loop (Prod.fst (lps K68 0)) (Prod.snd (lps K68 0)) [(0, .sl l.length 4 (chG l)), (1, .fn 70 [] [.ptr 0 0, .ptr 1 0]), (7, .int .i64 l.length), (8, .int .i64 0)] [.box [.fn 48 [] []], .box [.str x.zo, .str x.name, .int .i64 x.date, .bool x.first]])) (by kernel_rfl) ?_
 simp only [Tree.holds, zd]
 have fin : ∀ (i : Int) (h : Heap), i = idxB (fun y => decide (cmpC y x = 0)) l → h = HIdC x → RetR UJ 2 Q [.int .i64 i] h := by
  intro i h hi2 hh
  subst hh
  rw [← hi2] at hq
  exact RetR.keep [0, 1] rfl rfl (by show ∀ j, j < 2 → _; decide) rfl hq (by simp [resV, exp2, exp1, exp0, ren0, eqA2]) (by simp [expH, expB, exp1, exp0, ren0, HIdC]) rfl
 refine zc.loop (ι := {i : Nat // i ≤ l.length ∧ ∀ j, j < i → decide (cmpC (l.getD j Ch.nil) x = 0) = false}) (fun i => SIdC l i.1) (fun _ => HIdC x) (fun i => l.length - i.1) ⟨0, Nat.zero_le _, fun j hj => by omega⟩ 0 ?_ ?_ (by kernel_rfl)
 ·exact ⟨by simp [SIdC, chS, za], by simp [HIdC], by kernel_rfl, Nat.le_refl _⟩
 ·rintro ⟨i, hil, hib⟩
  refine zc.run hmix QX [0, 1, 7, 8] 400 (T := .ite (decide ((↑i : Int) < l.length)) (.side ((0 : Int) ≤ i ∧ (↑i : Int) < l.length) (.ex (fun (x_1 : Ch × Ch) => eqL [AV.agg [AV.str (Ch.zo (List.getD l (Int.toNat (↑i : Int)) Ch.nil)), AV.str (Ch.name (List.getD l (Int.toNat (↑i : Int)) Ch.nil)), AV.int .i64 (Ch.date (List.getD l (Int.toNat (↑i : Int)) Ch.nil)), AV.bool (Ch.first (List.getD l (Int.toNat (↑i : Int)) Ch.nil))], AV.ptr 0 0, AV.ptr 1 0] [AV.agg [AV.str x_1.1.zo, AV.str x_1.1.name, AV.int .i64 x_1.1.date, AV.bool x_1.1.first], AV.ptr 0 0, AV.ptr 1 0] ∧ eqH [.box [AV.fn 48 [] []], .box [AV.str x.zo, AV.str x.name, AV.int .i64 x.date, AV.bool x.first]] [.box [AV.fn 48 [] []], .box [AV.str x_1.2.zo, AV.str x_1.2.name, AV.int .i64 x_1.2.date, AV.bool x_1.2.first]] ∧ 2 = 2 ∧ True) fun n => .all (fun (r : Bool) => r = decide (cmpC n.1 n.2 = 0)) fun n_1 => .ite n_1 (.leaf (.ret [.int .i64 i] [.box [.fn 48 [] []], .box [.str n.2.zo, .str n.2.name, .int .i64 n.2.date, .bool n.2.first]])) (.side (inR .i64 ((↑i : Int) + (1 : Int))) (.leaf (.back 0 [(0, .sl l.length 4 (chG l)), (1, .fn 70 [] [.ptr 0 0, .ptr 1 0]), (7, .int .i64 l.length), (8, .int .i64 ((↑i : Int) + (1 : Int)))] [.box [.fn 48 [] []], .box [.str n.2.zo, .str n.2.name, .int .i64 n.2.date, .bool n.2.first]]))))) (.leaf (.ret [.int .i64 (-1 : Int)] [.box [.fn 48 [] []], .box [.str x.zo, .str x.name, .int .i64 x.date, .bool x.first]]))) (by kernel_rfl) ?_
  simp only [Tree.holds, zd, inR, lo, hi, Int.toNat_natCast]
  refine ⟨fun hlt => ?_, fun hge => ?_⟩
  ·have hlt : i < l.length := by have := of_decide_eq_true hlt; omega
   refine ⟨by omega, fun _ => ⟨(l.getD i Ch.nil, x), ⟨by simp, by simp, trivial, trivial⟩, ⟨_, rfl⟩, ?_⟩⟩
   rintro _ rfl
   refine ⟨fun h => ?_, fun h => ⟨by omega, fun _ => ?_⟩⟩
   ·exact fin _ _ (yJ hlt h hib).symm rfl
   ·rw [if_pos trivial]
    refine ⟨⟨i + 1, hlt, fun j hj => ?_⟩, by show l.length - (i + 1) < l.length - i; omega, by simp [SIdC, chS, za], by simp [HIdC], by kernel_rfl, Nat.le_refl _⟩
    rcases Nat.lt_or_ge j i with h1 | h1
    ·exact hib j h1
    ·have : j = i := by omega
     rw [this]; exact h
  ·have hge : i = l.length := by have := of_decide_eq_false hge; omega
   subst hge
   exact fin _ _ (kr (p := fun y => decide (cmpC y x = 0)) hib).symm rfl
def QD : Ctr := ctrP true (fun p : List Fx × Fx => [fxS p.1, p.2.av, .fn 38 [] []]) (fun p => p.1.length < 2 ^ 40) (fun p r => r = idxB (fun x => decide (cmpF x p.2 = 0)) p.1) (fun _ (r : Int) => (.int .i64 r, []))
def Jg : Ctr := ctrP true (fun p : List Ch × Ch => [chS p.1, p.2.av, .fn 48 [] []]) (fun p => p.1.length < 2 ^ 40) (fun p r => r = idxB (fun x => decide (cmpC x p.2 = 0)) p.1) (fun _ (r : Int) => (.int .i64 r, []))
noncomputable def GI3 : Nat → Option Ctr := fun f => if f = 66 then some (Ua) else if f = 68 then some (UJ) else none
theorem Ui : ∀ g c, GI3 g = some c → zb Tryd.prog g c := okIf zay (okIf zaf (zn))
theorem ZH : zb Tryd.prog 41 QD := by
 refine ze (fn := Tryd.f41) (c := Tryd.f41.body.getD .skip) rfl rfl rfl fun p hp O w0 Q hq => ?_
 obtain ⟨l, ⟨a, d, v⟩⟩ := p
 replace hq := hq _ rfl
 simp only at hq hp
 refine zc.run hmix Ui [] 400 (T := .ex (fun (x : List Fx × Fx) => eqL [AV.sl l.length 3 (fxG l), AV.fn 67 [] [AV.ptr 0 0, AV.ptr 1 0]] [AV.sl x.1.length 3 (fxG x.1), AV.fn 67 [] [AV.ptr 0 0, AV.ptr 1 0]] ∧ eqH [.box [AV.fn 38 [] []], .box [AV.str a, AV.int .i64 d, AV.str v]] [.box [AV.fn 38 [] []], .box [AV.str x.2.name, AV.int .i64 x.2.date, AV.str x.2.value]] ∧ 2 = 2 ∧ x.1.length < 1099511627776) fun n => .all (fun (r : Int) => r = idxB (fun (x : Fx) => decide (cmpF x n.2 = 0)) n.1) fun n_1 => .leaf (.ret [.int .i64 n_1] [.box [.str n.2.name, .int .i64 n.2.date, .str n.2.value], .box [.fn 38 [] []]])) (by kernel_rfl) ?_
 simp only [Tree.holds, zd]
 refine ⟨(l, ⟨a, d, v⟩), ⟨by simp [za], by simp, trivial, hp⟩, ⟨_, rfl⟩, ?_⟩
 rintro _ rfl
 exact RetR.scal hq rfl (by simp [resV])
theorem ZN : zb Tryd.prog 51 Jg := by
 refine ze (fn := Tryd.f51) (c := Tryd.f51.body.getD .skip) rfl rfl rfl fun p hp O w0 Q hq => ?_
 obtain ⟨l, ⟨a, v, d, b⟩⟩ := p
 replace hq := hq _ rfl
 simp only at hq hp
 refine zc.run hmix Ui [] 400 (T := .ex (fun (x : List Ch × Ch) => eqL [AV.sl l.length 4 (chG l), AV.fn 70 [] [AV.ptr 0 0, AV.ptr 1 0]] [AV.sl x.1.length 4 (chG x.1), AV.fn 70 [] [AV.ptr 0 0, AV.ptr 1 0]] ∧ eqH [.box [AV.fn 48 [] []], .box [AV.str a, AV.str v, AV.int .i64 d, AV.bool b]] [.box [AV.fn 48 [] []], .box [AV.str x.2.zo, AV.str x.2.name, AV.int .i64 x.2.date, AV.bool x.2.first]] ∧ 2 = 2 ∧ x.1.length < 1099511627776) fun n => .all (fun (r : Int) => r = idxB (fun (x : Ch) => decide (cmpC x n.2 = 0)) n.1) fun n_1 => .leaf (.ret [.int .i64 n_1] [.box [.str n.2.zo, .str n.2.name, .int .i64 n.2.date, .bool n.2.first], .box [.fn 48 [] []]])) (by kernel_rfl) ?_
 simp only [Tree.holds, zd]
 refine ⟨(l, ⟨a, v, d, b⟩), ⟨by simp [za], by simp, trivial, hp⟩, ⟨_, rfl⟩, ?_⟩
 rintro _ rfl
 exact RetR.scal hq rfl (by simp [resV])
noncomputable def GI4 : Nat → Option Ctr := fun f => if f = 41 then some (QD) else if f = 51 then some (Jg) else none
theorem zdt : ∀ g c, GI4 g = some c → zb Tryd.prog g c := okIf ZH (okIf ZN (zn))
theorem zbm : zb Tryd.prog 20 zcg := by
 refine ze (fn := Tryd.f20) (c := Tryd.f20.body.getD .skip) rfl rfl rfl fun p hp O w0 Q hq => ?_
 obtain ⟨⟨f, c⟩, ⟨a, d⟩⟩ := p
 replace hq := hq _ rfl
 simp only at hq hp
 refine zc.run hmix zdt [] 400 (T := .ex (fun (x : List Fx × Fx) => eqL [AV.sl f.length 3 (fxG f), AV.agg [AV.str a, AV.int .i64 d, AV.str (Array.toList #[])], AV.fn 38 [] []] [AV.sl x.1.length 3 (fxG x.1), AV.agg [AV.str x.2.name, AV.int .i64 x.2.date, AV.str x.2.value], AV.fn 38 [] []] ∧ x.1.length < 1099511627776) fun n => .all (fun (r : Int) => r = idxB (fun (x : Fx) => decide (cmpF x n.2 = 0)) n.1) fun n => .ite (decide (n < 0)) (.leaf (.ret [.str (Array.toList #[]), .bool false] [.box [.sl f.length 3 (fxG f), .sl c.length 4 (chG c)]])) (.side ((0 : Int) ≤ n ∧ n < (↑f.length : Int)) (.leaf (.ret [.str (Fx.value (List.getD f (Int.toNat n) Fx.nil)), .bool true] [.box [.sl f.length 3 (fxG f), .sl c.length 4 (chG c)]])))) (by kernel_rfl) ?_
 simp only [Tree.holds, zd]
 refine ⟨(f, ⟨a, d, []⟩), ⟨by simp [za], hp⟩, ⟨_, rfl⟩, ?_⟩
 rintro _ rfl
 obtain ⟨hlt, hr⟩ := XO f a d
 simp only at hq ⊢
 refine ⟨fun h => ?_, fun h => ?_⟩
 ·rw [hr, if_neg (by have := of_decide_eq_true h; omega)] at hq
  exact RetR.scal hq rfl (by simp [resV])
 ·have h := of_decide_eq_false h
  refine ⟨⟨by omega, hlt⟩, fun _ => ?_⟩
  rw [hr, if_pos (by omega)] at hq
  exact RetR.scal hq rfl (by simp [resV])
end Go.Proofs.Tryd
end

/- Evaluation: the state and its steps. -/
section
set_option maxRecDepth 100000
open Go Go.Sx Go.Proofs Go.Nov
namespace Go.Proofs.Tryd
attribute [local simp] eqKV eqA eqA0 eqH eqB eqL eqL0
structure St8 where
 f : List Fx
 c : List Ch
 day : Int
 e : Int
def St8.box (s : St8) : Blk := .box [fxS s.f, chS s.c, .int .i64 s.day, .int .i64 s.e]
def St8.err (s : St8) (e : Int) : St8 := ⟨s.f, s.c, s.day, e⟩
theorem qj (f : List Fx) (c : List Ch) (day e : Int) : eqH [.box [.sl f.length 3 (fxG f), .sl c.length 4 (chG c), .int .i64 day, .int .i64 e]] [(St8.mk f c day e).box] := ⟨⟨⟨rfl, rfl, za _ _ _⟩, ⟨rfl, rfl, za _ _ _⟩, ⟨rfl, rfl⟩, ⟨rfl, rfl⟩, trivial⟩, trivial⟩
theorem RetR.st8 {ctr : Ctr} {Q : AV × Heap → Prop} {rs : List AV} {f : List Fx} {c : List Ch} {day e : Int} {r : AV} (hf : ctr.fresh = false) (hq : Q (r, [(St8.mk f c day e).box])) (hs : x6 r = true) (hr : resV rs = r) (h2 : exp2 [.box [.sl f.length 3 (fxG f), .sl c.length 4 (chG c), .int .i64 day, .int .i64 e]] [0] r = r := by rfl) : RetR ctr 1 Q rs [.box [.sl f.length 3 (fxG f), .sl c.length 4 (chG c), .int .i64 day, .int .i64 e]] := by
 subst hr
 refine RetR.keep [0] rfl rfl (by decide) hf hq ?_ ?_ rfl
 ·rw [h2]; exact ZZ hs
 ·exact qj f c day e
structure KS where
 s : St8
 x : List UInt8
 e : Int
def W6 : Ctr := ctrT false false (fun k : KS => [.ptr 0 0, .str k.x, .int .i64 k.e]) (fun k => [k.s.box]) (fun _ => True) (fun k r => r = if k.s.e = 0 then k.e else k.s.e) (fun k (r : Int) => (.str k.x, [(k.s.err r).box]))
def UI : Ctr := ctrT false false (fun k : St8 × Int × Int => [.ptr 0 0, .int .i64 k.2.1, .int .i64 k.2.2]) (fun k => [k.1.box]) (fun _ => True) (fun k r => r = if k.1.e = 0 then k.2.2 else k.1.e) (fun k (r : Int) => (.int .i64 k.2.1, [(k.1.err r).box]))
theorem Js : zb Tryd.prog 56 W6 := by
 refine zB (fn := Tryd.f56) (c := Tryd.f56.body.getD .skip) rfl rfl rfl (fun h => by cases h) fun k hk O w0 σ0 Q hl0 hq => ?_
 obtain ⟨⟨f, c, day, e⟩, x, e'⟩ := k
 replace hq := hq _ rfl
 simp only at hq
 refine zc.run hmix zD [] 400 (T := .ite (decide (e = 0)) (.leaf (.ret [.str x] [.box [.sl f.length 3 (fxG f), .sl c.length 4 (chG c), .int .i64 day, .int .i64 e']])) (.leaf (.ret [.str x] [.box [.sl f.length 3 (fxG f), .sl c.length 4 (chG c), .int .i64 day, .int .i64 e]]))) (by kernel_rfl) ?_
 simp only [Tree.holds, zd]
 refine ⟨fun h => ?_, fun h => ?_⟩
 ·rw [if_pos (of_decide_eq_true h)] at hq
  exact RetR.st8 rfl hq rfl rfl
 ·rw [if_neg (of_decide_eq_false h)] at hq
  exact RetR.st8 rfl hq rfl rfl
theorem UM : zb Tryd.prog 80 UI := by
 refine zB (fn := Tryd.f80) (c := Tryd.f80.body.getD .skip) rfl rfl rfl (fun h => by cases h) fun k hk O w0 σ0 Q hl0 hq => ?_
 obtain ⟨⟨f, c, day, e⟩, x, e'⟩ := k
 replace hq := hq _ rfl
 simp only at hq
 refine zc.run hmix zD [] 400 (T := .ite (decide (e = 0)) (.leaf (.ret [.int .i64 x] [.box [.sl f.length 3 (fxG f), .sl c.length 4 (chG c), .int .i64 day, .int .i64 e']])) (.leaf (.ret [.int .i64 x] [.box [.sl f.length 3 (fxG f), .sl c.length 4 (chG c), .int .i64 day, .int .i64 e]]))) (by kernel_rfl) ?_
 simp only [Tree.holds, zd]
 refine ⟨fun h => ?_, fun h => ?_⟩
 ·rw [if_pos (of_decide_eq_true h)] at hq
  exact RetR.st8 rfl hq rfl rfl
 ·rw [if_neg (of_decide_eq_false h)] at hq
  exact RetR.st8 rfl hq rfl rfl
def fixC : Ctr := ctrT false false (fun k : KS => [.ptr 0 0, .str k.x, .int .i64 k.e]) (fun k => [k.s.box]) (fun k => k.s.f.length < 2 ^ 40 ∧ k.s.e = 0) (fun k r => r = fixR k.s.f k.x k.e) (fun k (r : List UInt8 × Int) => (.str r.1, [(k.s.err r.2).box]))
noncomputable def GFx : Nat → Option Ctr := fun f => if f = 20 then some (zcg) else if f = 56 then some (W6) else none
theorem zdw : ∀ g c, GFx g = some c → zb Tryd.prog g c := okIf zbm (okIf Js (zn))
theorem Xq : zb Tryd.prog 55 fixC := by
 refine zB (fn := Tryd.f55) (c := Tryd.f55.body.getD .skip) rfl rfl rfl (fun h => by cases h) fun k hk O w0 σ0 Q hl0 hq => ?_
 obtain ⟨⟨f, c, day, e⟩, x, d⟩ := k
 obtain ⟨h1, h2⟩ := hk
 replace hq := hq _ rfl
 simp only at h1 h2 hq
 subst h2
 refine zc.run hmix zdw [] 400 (T := .ex (fun (x_1 : (List Fx × List Ch) × List UInt8 × Int) => eqL [AV.agg [AV.sl f.length 3 (fxG f), AV.sl c.length 4 (chG c)], AV.str x, AV.int .i64 d] [AV.agg [AV.sl (List.length (x_1.1.1)) 3 (fxG (x_1.1.1)), AV.sl x_1.1.2.length 4 (chG x_1.1.2)], AV.str (x_1.2.1), AV.int .i64 (x_1.2.2)] ∧ List.length (x_1.1.1) < 1099511627776) fun n => .all (fun (r : List UInt8 × Bool) => r = j5 (n.1.1) (n.2.1) (n.2.2)) fun n => .ite (!Prod.snd n) (.ex (fun (x : KS) => eqL [AV.ptr 0 0, AV.str n.1, AV.int .i64 30] [AV.ptr 0 0, AV.str x.x, AV.int .i64 x.e] ∧ eqH [.box [AV.sl f.length 3 (fxG f), AV.sl c.length 4 (chG c), AV.int .i64 day, AV.int .i64 0]] [.box [AV.sl x.s.f.length 3 (fxG x.s.f), AV.sl x.s.c.length 4 (chG x.s.c), AV.int .i64 x.s.day, AV.int .i64 x.s.e]] ∧ 1 = 1 ∧ True) fun n => .all (fun (r : Int) => r = if St8.e n.s = 0 then KS.e n else St8.e n.s) fun n_1 => .leaf (.ret [.str n.x] [.box [.sl (List.length (St8.f (n.s.err n_1))) 3 (fxG (St8.f (n.s.err n_1))), .sl (List.length (St8.c (n.s.err n_1))) 4 (chG (St8.c (n.s.err n_1))), .int .i64 (St8.day (n.s.err n_1)), .int .i64 (St8.e (n.s.err n_1))]])) (.leaf (.ret [.str n.1] [.box [.sl f.length 3 (fxG f), .sl c.length 4 (chG c), .int .i64 day, .int .i64 0]]))) (by kernel_rfl) ?_
 simp only [Tree.holds, zd]
 refine ⟨((f, c), (x, d)), ⟨⟨⟨⟨rfl, rfl, za _ _ _⟩, ⟨rfl, rfl, za _ _ _⟩, trivial⟩, rfl, ⟨rfl, rfl⟩, trivial⟩, h1⟩, ⟨_, rfl⟩, ?_⟩
 rintro _ rfl
 unfold fixR at hq
 refine ⟨fun h => ?_, fun h => ?_⟩
 ·have h : (j5 f x d).2 = false := by simpa using h
  have h0 : (j5 f x d).1 = [] := Ub h
  rw [if_neg (by rw [h]; decide)] at hq
  refine ⟨⟨⟨f, c, day, 0⟩, [], 30⟩, ⟨⟨⟨rfl, rfl⟩, h0, ⟨rfl, rfl⟩, trivial⟩, qj f c day 0, trivial, trivial⟩, ⟨_, rfl⟩, ?_⟩
  rintro _ rfl
  exact RetR.st8 rfl hq rfl rfl
 ·have h : (j5 f x d).2 = true := by simpa using h
  rw [if_pos h] at hq
  exact RetR.st8 rfl hq rfl rfl
structure K2 where
 s : St8
 a : List UInt8
 b : List UInt8
def cmpE (e : Int) (a b : List UInt8) : Int × Int := if e ≠ 0 then (0, e) else cmpR a b
def Yi : Ctr := ctrT false false (fun k : K2 => [.ptr 0 0, .str k.a, .str k.b]) (fun k => [k.s.box]) (fun k => k.s.e = 0 → k.a.length < 2 ^ 61 ∧ k.b.length < 2 ^ 61) (fun k r => r = cmpE k.s.e k.a k.b) (fun k (r : Int × Int) => (.int .i64 r.1, [(k.s.err r.2).box]))
noncomputable def GCq : Nat → Option Ctr := fun f => if f = 79 then some (zd5) else if f = 80 then some (UI) else none
theorem zdm : ∀ g c, GCq g = some c → zb Tryd.prog g c := okIf zc5 (okIf UM (zn))
theorem VG : zb Tryd.prog 65 Yi := by
 refine zB (fn := Tryd.f65) (c := Tryd.f65.body.getD .skip) rfl rfl rfl (fun h => by cases h) fun k hk O w0 σ0 Q hl0 hq => ?_
 obtain ⟨⟨f, c, day, e⟩, a, b⟩ := k
 replace hq := hq _ rfl
 simp only at hk hq
 unfold cmpE at hq
 refine zc.run hmix zdm [] 400 (T := .ite (!decide (e = 0)) (.leaf (.ret [.int .i64 0] [.box [.sl f.length 3 (fxG f), .sl c.length 4 (chG c), .int .i64 day, .int .i64 e]])) (.ex (fun (x : List UInt8 × List UInt8) => eqL [AV.str a, AV.str b] [AV.str x.1, AV.str x.2] ∧ x.1.length < 2305843009213693952 ∧ x.2.length < 2305843009213693952) fun n => .all (fun (r : Int × Int) => r = cmpR n.1 n.2) fun n => .ex (fun (x : St8 × Int × Int) => eqL [AV.ptr 0 0, AV.int .i64 n.1, AV.int .i64 n.2] [AV.ptr 0 0, AV.int .i64 (x.2.1), AV.int .i64 (x.2.2)] ∧ eqH [.box [AV.sl f.length 3 (fxG f), AV.sl c.length 4 (chG c), AV.int .i64 day, AV.int .i64 e]] [.box [AV.sl x.1.f.length 3 (fxG x.1.f), AV.sl x.1.c.length 4 (chG x.1.c), AV.int .i64 x.1.day, AV.int .i64 x.1.e]] ∧ 1 = 1 ∧ True) fun n => .all (fun (r : Int) => r = if St8.e n.1 = 0 then n.2.2 else St8.e n.1) fun n_1 => .leaf (.ret [.int .i64 (n.2.1)] [.box [.sl (List.length (St8.f (n.1.err n_1))) 3 (fxG (St8.f (n.1.err n_1))), .sl (List.length (St8.c (n.1.err n_1))) 4 (chG (St8.c (n.1.err n_1))), .int .i64 (St8.day (n.1.err n_1)), .int .i64 (St8.e (n.1.err n_1))]]))) (by kernel_rfl) ?_
 simp only [Tree.holds, zd]
 refine ⟨fun h => ?_, fun h => ?_⟩
 ·have h : e ≠ 0 := by simpa using h
  rw [if_pos h] at hq
  exact RetR.st8 rfl hq rfl rfl
 ·have h : e = 0 := by simpa using h
  subst h
  obtain ⟨h1, h2⟩ := hk rfl
  rw [if_neg (by simp)] at hq
  refine ⟨(a, b), ⟨⟨rfl, rfl, trivial⟩, h1, h2⟩, ⟨_, rfl⟩, ?_⟩
  rintro _ rfl
  refine ⟨(⟨f, c, day, 0⟩, (cmpR a b).1, (cmpR a b).2), ⟨⟨⟨rfl, rfl⟩, ⟨rfl, rfl⟩, ⟨rfl, rfl⟩, trivial⟩, qj f c day 0, trivial, trivial⟩, ⟨_, rfl⟩, ?_⟩
  rintro _ rfl
  exact RetR.st8 rfl hq rfl rfl
def sopC (F : List UInt8 → List UInt8 → List UInt8 × Int) (same : Bool) : Ctr := ctrT false false (fun k : K2 => [.ptr 0 0, .str k.a, .str k.b]) (fun k => [k.s.box]) (fun k => k.s.e = 0 ∧ k.a.length < 2 ^ 61 ∧ k.b.length < 2 ^ 61) (fun k r => r.2 = (F k.a k.b).2 ∧ (r.2 = 0 → r.1 = (F k.a k.b).1)) (fun k (r : List UInt8 × Int) => (.tup [.str r.1, .int .i64 r.2], [(bif same then k.s else k.s.err r.2).box]))
noncomputable def zew : Nat → Option Ctr := fun f => if f = 133 then some (Kv) else if f = 134 then some (Kz) else if f = 135 then some (VW) else none
theorem Us : ∀ g c, zew g = some c → zb Tryd.prog g c := okIf Jb (okIf Jd (okIf Qw (zn)))
theorem zb2 : zb Tryd.prog 128 (sopC addR true) := by
 refine zB (fn := Tryd.f128) (c := Tryd.f128.body.getD .skip) rfl rfl rfl (fun h => by cases h) fun k hk O w0 σ0 Q hl0 hq => ?_
 obtain ⟨⟨f, c, day, e⟩, a, b⟩ := k
 replace hq := hq (addR a b) ⟨rfl, fun _ => rfl⟩
 obtain ⟨h0, h1, h2⟩ := hk
 simp only at h0 h1 h2 hq
 refine zc.run hmix Us [] 400 (T := .ex (fun (x : List UInt8 × List UInt8) => eqL [AV.str a, AV.str b] [AV.str x.1, AV.str x.2] ∧ x.1.length < 2305843009213693952 ∧ x.2.length < 2305843009213693952) fun n => .all (fun (r : List UInt8 × Int) => r = addR n.1 n.2) fun n => .leaf (.ret [.str n.1, .int .i64 n.2] [.box [.sl f.length 3 (fxG f), .sl c.length 4 (chG c), .int .i64 day, .int .i64 e]])) (by kernel_rfl) ?_
 simp only [Tree.holds, zd]
 refine ⟨(a, b), ⟨⟨rfl, rfl, trivial⟩, h1, h2⟩, ⟨_, rfl⟩, ?_⟩
 rintro _ rfl
 exact RetR.st8 rfl hq rfl rfl
noncomputable def zf0 : Nat → Option Ctr := fun f => if f = 133 then some (Kv) else if f = 134 then some (Kz) else if f = 135 then some (VW) else none
theorem UD : ∀ g c, zf0 g = some c → zb Tryd.prog g c := okIf Jb (okIf Jd (okIf Qw (zn)))
theorem zbb : zb Tryd.prog 129 (sopC subR true) := by
 refine zB (fn := Tryd.f129) (c := Tryd.f129.body.getD .skip) rfl rfl rfl (fun h => by cases h) fun k hk O w0 σ0 Q hl0 hq => ?_
 obtain ⟨⟨f, c, day, e⟩, a, b⟩ := k
 replace hq := hq (subR a b) ⟨rfl, fun _ => rfl⟩
 obtain ⟨h0, h1, h2⟩ := hk
 simp only at h0 h1 h2 hq
 refine zc.run hmix UD [] 400 (T := .ex (fun (x : List UInt8 × List UInt8) => eqL [AV.str a, AV.str b] [AV.str x.1, AV.str x.2] ∧ x.1.length < 2305843009213693952 ∧ x.2.length < 2305843009213693952) fun n => .all (fun (r : List UInt8 × Int) => r = subR n.1 n.2) fun n => .leaf (.ret [.str n.1, .int .i64 n.2] [.box [.sl f.length 3 (fxG f), .sl c.length 4 (chG c), .int .i64 day, .int .i64 e]])) (by kernel_rfl) ?_
 simp only [Tree.holds, zd]
 refine ⟨(a, b), ⟨⟨rfl, rfl, trivial⟩, h1, h2⟩, ⟨_, rfl⟩, ?_⟩
 rintro _ rfl
 exact RetR.st8 rfl hq rfl rfl
noncomputable def zez : Nat → Option Ctr := fun f => if f = 133 then some (Kv) else if f = 134 then some (Kz) else if f = 135 then some (VW) else none
theorem Yk : ∀ g c, zez g = some c → zb Tryd.prog g c := okIf Jb (okIf Jd (okIf Qw (zn)))
theorem zbh : zb Tryd.prog 130 (sopC mulR true) := by
 refine zB (fn := Tryd.f130) (c := Tryd.f130.body.getD .skip) rfl rfl rfl (fun h => by cases h) fun k hk O w0 σ0 Q hl0 hq => ?_
 obtain ⟨⟨f, c, day, e⟩, a, b⟩ := k
 replace hq := hq (mulR a b) ⟨rfl, fun _ => rfl⟩
 obtain ⟨h0, h1, h2⟩ := hk
 simp only at h0 h1 h2 hq
 refine zc.run hmix Yk [] 400 (T := .ex (fun (x : List UInt8 × List UInt8) => eqL [AV.str a, AV.str b] [AV.str x.1, AV.str x.2] ∧ x.1.length < 2305843009213693952 ∧ x.2.length < 2305843009213693952) fun n => .all (fun (r : List UInt8 × Int) => r = mulR n.1 n.2) fun n => .leaf (.ret [.str n.1, .int .i64 n.2] [.box [.sl f.length 3 (fxG f), .sl c.length 4 (chG c), .int .i64 day, .int .i64 e]])) (by kernel_rfl) ?_
 simp only [Tree.holds, zd]
 refine ⟨(a, b), ⟨⟨rfl, rfl, trivial⟩, h1, h2⟩, ⟨_, rfl⟩, ?_⟩
 rintro _ rfl
 exact RetR.st8 rfl hq rfl rfl
noncomputable def GGr : Nat → Option Ctr := fun f => if f = 65 then some (Yi) else none
theorem Ud : ∀ g c, GGr g = some c → zb Tryd.prog g c := okIf VG (zn)
theorem JT : zb Tryd.prog 131 (sopC (j6 7) false) := by
 refine zB (fn := Tryd.f131) (c := Tryd.f131.body.getD .skip) rfl rfl rfl (fun h => by cases h) fun k hk O w0 σ0 Q hl0 hq => ?_
 obtain ⟨⟨f, c, day, e⟩, a, b⟩ := k
 obtain ⟨h0, h1, h2⟩ := hk
 simp only at h0 h1 h2 hq
 subst h0
 refine zc.run hmix Ud [] 400 (T := .ex (fun (x : K2) => eqL [AV.ptr 0 0, AV.str a, AV.str b] [AV.ptr 0 0, AV.str x.a, AV.str x.b] ∧ eqH [.box [AV.sl f.length 3 (fxG f), AV.sl c.length 4 (chG c), AV.int .i64 day, AV.int .i64 0]] [.box [AV.sl x.s.f.length 3 (fxG x.s.f), AV.sl x.s.c.length 4 (chG x.s.c), AV.int .i64 x.s.day, AV.int .i64 x.s.e]] ∧ 1 = 1 ∧ (St8.e x.s = 0 → x.a.length < 2305843009213693952 ∧ x.b.length < 2305843009213693952)) fun n => .all (fun (r : Int × Int) => r = cmpE n.s.e n.a n.b) fun n_1 => .ite (decide (n_1.1 < 0)) (.leaf (.ret [.str b, .int .i64 (St8.e (n.s.err n_1.2))] [.box [.sl (List.length (St8.f (n.s.err n_1.2))) 3 (fxG (St8.f (n.s.err n_1.2))), .sl (List.length (St8.c (n.s.err n_1.2))) 4 (chG (St8.c (n.s.err n_1.2))), .int .i64 (St8.day (n.s.err n_1.2)), .int .i64 (St8.e (n.s.err n_1.2))]])) (.leaf (.ret [.str a, .int .i64 (St8.e (n.s.err n_1.2))] [.box [.sl (List.length (St8.f (n.s.err n_1.2))) 3 (fxG (St8.f (n.s.err n_1.2))), .sl (List.length (St8.c (n.s.err n_1.2))) 4 (chG (St8.c (n.s.err n_1.2))), .int .i64 (St8.day (n.s.err n_1.2)), .int .i64 (St8.e (n.s.err n_1.2))]]))) (by kernel_rfl) ?_
 simp only [Tree.holds, zd]
 refine ⟨⟨⟨f, c, day, 0⟩, a, b⟩, ⟨⟨⟨rfl, rfl⟩, rfl, rfl, trivial⟩, qj f c day 0, trivial, fun _ => ⟨h1, h2⟩⟩, ⟨_, rfl⟩, ?_⟩
 have e1 : cmpE 0 a b = cmpR a b := if_neg (by simp)
 rw [e1]
 rintro _ rfl
 unfold j6 at hq
 rw [if_pos rfl] at hq
 refine ⟨fun h => ?_, fun h => ?_⟩
 ·have h : (cmpR a b).1 < 0 := of_decide_eq_true h
  refine RetR.st8 rfl (hq (b, (cmpR a b).2) ?_) rfl rfl
  by_cases g : (cmpR a b).2 = 0
  ·rw [if_neg (by rw [g]; simp), if_pos h]; exact ⟨g, fun _ => rfl⟩
  ·rw [if_pos g]; exact ⟨rfl, fun h => absurd h g⟩
 ·have h : ¬ (cmpR a b).1 < 0 := of_decide_eq_false h
  refine RetR.st8 rfl (hq (a, (cmpR a b).2) ?_) rfl rfl
  by_cases g : (cmpR a b).2 = 0
  ·rw [if_neg (by rw [g]; simp), if_neg h]; exact ⟨g, fun _ => rfl⟩
  ·rw [if_pos g]; exact ⟨rfl, fun h => absurd h g⟩
theorem J2 : zb Tryd.prog 132 (sopC (j6 8) false) := by
 refine zB (fn := Tryd.f132) (c := Tryd.f132.body.getD .skip) rfl rfl rfl (fun h => by cases h) fun k hk O w0 σ0 Q hl0 hq => ?_
 obtain ⟨⟨f, c, day, e⟩, a, b⟩ := k
 obtain ⟨h0, h1, h2⟩ := hk
 simp only at h0 h1 h2 hq
 subst h0
 refine zc.run hmix Ud [] 400 (T := .ex (fun (x : K2) => eqL [AV.ptr 0 0, AV.str b, AV.str a] [AV.ptr 0 0, AV.str x.a, AV.str x.b] ∧ eqH [.box [AV.sl f.length 3 (fxG f), AV.sl c.length 4 (chG c), AV.int .i64 day, AV.int .i64 0]] [.box [AV.sl x.s.f.length 3 (fxG x.s.f), AV.sl x.s.c.length 4 (chG x.s.c), AV.int .i64 x.s.day, AV.int .i64 x.s.e]] ∧ 1 = 1 ∧ (St8.e x.s = 0 → x.a.length < 2305843009213693952 ∧ x.b.length < 2305843009213693952)) fun n => .all (fun (r : Int × Int) => r = cmpE n.s.e n.a n.b) fun n_1 => .ite (decide (n_1.1 < 0)) (.leaf (.ret [.str b, .int .i64 (St8.e (n.s.err n_1.2))] [.box [.sl (List.length (St8.f (n.s.err n_1.2))) 3 (fxG (St8.f (n.s.err n_1.2))), .sl (List.length (St8.c (n.s.err n_1.2))) 4 (chG (St8.c (n.s.err n_1.2))), .int .i64 (St8.day (n.s.err n_1.2)), .int .i64 (St8.e (n.s.err n_1.2))]])) (.leaf (.ret [.str a, .int .i64 (St8.e (n.s.err n_1.2))] [.box [.sl (List.length (St8.f (n.s.err n_1.2))) 3 (fxG (St8.f (n.s.err n_1.2))), .sl (List.length (St8.c (n.s.err n_1.2))) 4 (chG (St8.c (n.s.err n_1.2))), .int .i64 (St8.day (n.s.err n_1.2)), .int .i64 (St8.e (n.s.err n_1.2))]]))) (by kernel_rfl) ?_
 simp only [Tree.holds, zd]
 refine ⟨⟨⟨f, c, day, 0⟩, b, a⟩, ⟨⟨⟨rfl, rfl⟩, rfl, rfl, trivial⟩, qj f c day 0, trivial, fun _ => ⟨h2, h1⟩⟩, ⟨_, rfl⟩, ?_⟩
 have e1 : cmpE 0 b a = cmpR b a := if_neg (by simp)
 rw [e1]
 rintro _ rfl
 unfold j6 at hq
 rw [if_neg (by decide)] at hq
 refine ⟨fun h => ?_, fun h => ?_⟩
 ·have h : (cmpR b a).1 < 0 := of_decide_eq_true h
  refine RetR.st8 rfl (hq (b, (cmpR b a).2) ?_) rfl rfl
  by_cases g : (cmpR b a).2 = 0
  ·rw [if_neg (by rw [g]; simp), if_pos h]; exact ⟨g, fun _ => rfl⟩
  ·rw [if_pos g]; exact ⟨rfl, fun h => absurd h g⟩
 ·have h : ¬ (cmpR b a).1 < 0 := of_decide_eq_false h
  refine RetR.st8 rfl (hq (a, (cmpR b a).2) ?_) rfl rfl
  by_cases g : (cmpR b a).2 = 0
  ·rw [if_neg (by rw [g]; simp), if_neg h]; exact ⟨g, fun _ => rfl⟩
  ·rw [if_pos g]; exact ⟨rfl, fun h => absurd h g⟩
end Go.Proofs.Tryd
end
