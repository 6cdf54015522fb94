/- Part 6 of the proof. -/
import Derived.Test.YthhkojokgcngnaaSxb
import Derived.Test.YthhkojokgcngnaaSxe
set_option linter.unusedVariables false
set_option linter.unusedSimpArgs false
set_option linter.unusedSectionVars false

/- Facts that stand: what corrections and new facts do to them. -/
section
namespace Go.Nov
open Go.Sx
theorem zR {α : Type} {l : List α} {z : α} {j : Nat} (h : j < l.length) : l.getD j z = l[j] := by simp [List.getD, h]
theorem za3 {α : Type} {p : α → Bool} {l : List α} {z : α} {j : Nat} (hj : j < l.length) (hp : p (l.getD j z) = true) (hu : ∀ i, i < l.length → p (l.getD i z) = true → i = j) : l.findIdx p = j := by
 have hlt : l.findIdx p < l.length := List.findIdx_lt_length_of_exists ⟨l[j], List.getElem_mem hj, by rwa [zR hj] at hp⟩
 exact hu _ hlt (by rw [zR hlt]; exact List.findIdx_getElem (w := hlt))
theorem yO {l : List Ev} {k : List Sc} : zq l k = true ↔ ∃ j, j < l.length ∧ (l.getD j Ev.nil).kind ≠ 0 ∧ (l.getD j Ev.nil).key = k := by
 unfold zq
 rw [List.any_eq_true]
 constructor
 ·rintro ⟨x, hx, hl⟩
  obtain ⟨j, hj, rfl⟩ := List.mem_iff_getElem.1 hx
  refine ⟨j, hj, ?_⟩
  rw [zR hj]
  simpa [Ev.ji] using hl
 ·rintro ⟨j, hj, hl⟩
  rw [zR hj] at hl
  exact ⟨_, List.getElem_mem hj, by simpa [Ev.ji] using hl⟩
theorem qU {α : Type} {l : List α} {z y : α} {i j : Nat} (hi : i < l.length) : (l.set i y).getD j z = if j = i then y else l.getD j z := by
 by_cases h : j = i
 ·subst h; rw [if_pos rfl]; simp [List.getD, hi]
 ·rw [if_neg h]
  simp only [List.getD]
  rw [List.getElem?_set_ne (fun g => h g.symm)]
theorem Y9 {s : SS} (ho : s.ok) {k : List Sc} {j : Nat} (hj : j < s.lat.length) (h1 : (s.lat.getD j Ev.nil).kind ≠ 0) (h2 : (s.lat.getD j Ev.nil).key = k) : s.lat.findIdx (Ev.ji k) = j :=
 za3 (z := Ev.nil) hj (by simp only [Ev.ji, h2, decide_true, Bool.and_true]; exact decide_eq_true h1) fun i hi hl => by
  have hl : (s.lat.getD i Ev.nil).kind ≠ 0 ∧ (s.lat.getD i Ev.nil).key = k := by simpa [Ev.ji] using hl
  exact ho.uniq i j hi hj hl.1 h1 (by rw [hl.2, h2])
theorem XT {s : SS} (ho : s.ok) {i : Nat} (hi : i < s.lat.length) : SS.ok ⟨s.evs, s.lat.set i Ev.nil⟩ where
 len := by simpa using ho.len
 uniq a b ha hb := by
  simp only [List.length_set] at ha hb
  simp only [qU hi]
  by_cases h1 : a = i
  ·rw [if_pos h1]; intro h; exact absurd rfl h
  ·by_cases h2 : b = i
   ·rw [if_pos h2]; intro _ h; exact absurd rfl h
   ·rw [if_neg h1, if_neg h2]; exact ho.uniq a b ha hb
 kinds a ha := by
  simp only [List.length_set] at ha
  simp only [qU hi]
  by_cases h1 : a = i
  ·rw [if_pos h1]; exact .inl rfl
  ·rw [if_neg h1]; exact ho.kinds a ha
theorem Uf {s : SS} (ho : s.ok) {i : Nat} (hi : i < s.lat.length) (hk : (s.lat.getD i Ev.nil).kind ≠ 0) (k : List Sc) : yz (zq s.lat) (s.lat.getD i Ev.nil).key k = zq (s.lat.set i Ev.nil) k := by
 rw [Bool.eq_iff_iff]
 simp only [yz, Bool.and_eq_true, Bool.not_eq_true', decide_eq_false_iff_not]
 rw [yO, yO]
 simp only [List.length_set, qU hi]
 constructor
 ·rintro ⟨h1, j, hj, h2, h3⟩
  have : j ≠ i := fun e => h1 (by rw [← h3, e])
  exact ⟨j, hj, by rw [if_neg this]; exact ⟨h2, h3⟩⟩
 ·rintro ⟨j, hj, h2⟩
  by_cases e : j = i
  ·rw [if_pos e] at h2; exact absurd rfl h2.1
  ·rw [if_neg e] at h2
   exact ⟨fun g => e (ho.uniq j i hj hi h2.1 hk (by rw [h2.2, g])), j, hj, h2⟩
theorem Xn {s : SS} (ho : s.ok) {i : Nat} (hi : i < s.lat.length) {k : List Sc} (h : zq (s.lat.set i Ev.nil) k = true) : zy s.lat k = zy (s.lat.set i Ev.nil) k := by
 obtain ⟨j, hj, h1, h2⟩ := yO.1 h
 have e2 := Y9 (XT ho hi) hj h1 h2
 rw [List.length_set] at hj
 rw [qU hi] at h1 h2
 by_cases e : j = i
 ·rw [if_pos e] at h1; exact absurd rfl h1
 ·rw [if_neg e] at h1 h2
  unfold zy
  rw [Y9 ho hj h1 h2, e2]
theorem X9 {l : List Ev} {i : Nat} {y : Ev} (hi : i < l.length) (h1 : y.kind = (l.getD i Ev.nil).kind) (h2 : y.key = (l.getD i Ev.nil).key) (k : List Sc) : ∀ j, j < l.length → Ev.ji k ((l.set i y).getD j Ev.nil) = Ev.ji k (l.getD j Ev.nil) := by
 intro j hj
 rw [qU hi]
 by_cases e : j = i
 ·rw [if_pos e, e]; simp only [Ev.ji, h1, h2]
 ·rw [if_neg e]
theorem UU {α : Type} {p q : α → Bool} {l m : List α} {z : α} (hl : l.length = m.length) (h : ∀ j, j < l.length → p (l.getD j z) = q (m.getD j z)) : l.any p = m.any q ∧ l.findIdx p = m.findIdx q := by
 induction l generalizing m with
 | nil => cases m with
  | nil => exact ⟨rfl, rfl⟩
  | cons _ _ => simp at hl
 | cons x l ih =>
  cases m with
  | nil => simp at hl
  | cons y m =>
   have h0 := h 0 (by simp)
   simp only [List.getD_cons_zero] at h0
   have hr := ih (m := m) (by simpa using hl) fun j hj => by
    have := h (j + 1) (by simpa using hj)
    simpa using this
   refine ⟨by simp only [List.any_cons, h0, hr.1], ?_⟩
   simp only [List.findIdx_cons, h0, hr.2]
theorem zc1 {l : List Ev} {i : Nat} {y : Ev} (hi : i < l.length) (h1 : y.kind = (l.getD i Ev.nil).kind) (h2 : y.key = (l.getD i Ev.nil).key) (k : List Sc) : zq l k = zq (l.set i y) k ∧ zy l k = zy (l.set i y) k := by
 have := UU (p := Ev.ji k) (q := Ev.ji k) (l := l) (m := l.set i y) (z := Ev.nil) (by simp) fun j hj => (X9 hi h1 h2 k j hj).symm
 unfold zq zy
 rw [this.1, this.2]
 exact ⟨rfl, rfl⟩
theorem zc0 {s : SS} (ho : s.ok) {i : Nat} {y : Ev} (hi : i < s.lat.length) (h1 : y.kind = (s.lat.getD i Ev.nil).kind) (h2 : y.key = (s.lat.getD i Ev.nil).key) : SS.ok ⟨s.evs, s.lat.set i y⟩ := by
 have e1 : ∀ j, ((s.lat.set i y).getD j Ev.nil).kind = (s.lat.getD j Ev.nil).kind := fun j => by
  rw [qU hi]; by_cases e : j = i
  ·rw [if_pos e, e, h1]
  ·rw [if_neg e]
 have e2 : ∀ j, ((s.lat.set i y).getD j Ev.nil).key = (s.lat.getD j Ev.nil).key := fun j => by
  rw [qU hi]; by_cases e : j = i
  ·rw [if_pos e, e, h2]
  ·rw [if_neg e]
 refine ⟨by simpa using ho.len, fun a b ha hb => ?_, fun a ha => ?_⟩
 ·simp only [List.length_set] at ha hb
  simp only [e1, e2]
  exact ho.uniq a b ha hb
 ·simp only [List.length_set] at ha
  simp only [e1]
  exact ho.kinds a ha
theorem Uo {s : SS} {e : Ev} (hk : e.kind ≠ 0) (k : List Sc) : ja (zq s.lat) e.key k = zq (s.lat ++ [e]) k := by
 simp only [ja, zq, List.any_append, List.any_cons, List.any_nil, Bool.or_false, Ev.ji, hk, ne_eq, not_false_eq_true, decide_true, Bool.true_and]
 rw [Bool.or_comm]
 congr 1
 exact decide_eq_decide.2 ⟨fun h => h.symm, fun h => h.symm⟩
theorem Xg {s : SS} {e : Ev} (hk : e.kind ≠ 0) (hid : e.id = s.lat.length + 1) (hn : zq s.lat e.key = false) (k : List Sc) (h : zq (s.lat ++ [e]) k = true) : zC (zy s.lat) e.key (.int .i64 e.id) k = zy (s.lat ++ [e]) k := by
 unfold zC zy
 rw [List.findIdx_append]
 by_cases q : k = e.key
 ·rw [if_pos q]
  subst q
  have : ¬ s.lat.findIdx (Ev.ji e.key) < s.lat.length := by
   rw [List.findIdx_lt_length]
   rintro ⟨x, hx, hl⟩
   have : zq s.lat e.key = true := List.any_eq_true.2 ⟨x, hx, hl⟩
   rw [hn] at this; cases this
  rw [if_neg this]
  have e1 : Ev.ji e.key e = true := by simp [Ev.ji, hk]
  simp only [List.findIdx_cons, e1]
  rw [hid]; simp
 ·rw [if_neg q]
  have : s.lat.findIdx (Ev.ji k) < s.lat.length := by
   rw [List.findIdx_lt_length]
   simp only [zq, List.any_append, List.any_cons, List.any_nil, Bool.or_false, Bool.or_eq_true] at h
   rcases h with h | h
   ·exact List.any_eq_true.1 h
   ·have h : e.kind ≠ 0 ∧ e.key = k := by simpa [Ev.ji] using h
    exact absurd h.2.symm q
  rw [if_pos this]
theorem yp {l : List Ev} (k : List Sc) : zq l k = zq (l ++ [Ev.nil]) k ∧ (zq (l ++ [Ev.nil]) k = true → zy l k = zy (l ++ [Ev.nil]) k) := by
 have e : zq l k = zq (l ++ [Ev.nil]) k := by
  simp [zq, Ev.ji]
 refine ⟨e, fun h => ?_⟩
 rw [← e] at h
 unfold zy
 rw [List.findIdx_append, if_pos]
 rw [List.findIdx_lt_length]
 exact List.any_eq_true.1 h
theorem js {α : Type} {l : List α} {x z : α} {j : Nat} (h : j < l.length + 1) : (l ++ [x]).getD j z = if j < l.length then l.getD j z else x := by
 by_cases q : j < l.length
 ·rw [if_pos q]; simp only [List.getD, List.getElem?_append_left q]
 ·rw [if_neg q]
  obtain rfl : j = l.length := by omega
  simp [List.getD]
theorem Yi {s : SS} (ho : s.ok) {e x : Ev} (hx : x.kind = 0 ∨ (x.kind = 1 ∨ x.kind = 2) ∧ zq s.lat x.key = false) : SS.ok ⟨s.evs ++ [e], s.lat ++ [x]⟩ := by
 refine ⟨by simp [ho.len], fun a b ha hb => ?_, fun a ha => ?_⟩
 ·simp only [List.length_append, List.length_cons, List.length_nil] at ha hb
  simp only
  rw [js (by omega), js (by omega)]
  by_cases h1 : a < s.lat.length <;> by_cases h2 : b < s.lat.length
  ·rw [if_pos h1, if_pos h2]; exact ho.uniq a b h1 h2
  ·rw [if_pos h1, if_neg h2]
   intro k1 k2 k3
   rcases hx with hx | ⟨_, hx⟩
   ·exact absurd hx k2
   ·have : zq s.lat x.key = true := yO.2 ⟨a, h1, k1, k3⟩
    rw [hx] at this; cases this
  ·rw [if_neg h1, if_pos h2]
   intro k1 k2 k3
   rcases hx with hx | ⟨_, hx⟩
   ·exact absurd hx k1
   ·have : zq s.lat x.key = true := yO.2 ⟨b, h2, k2, k3.symm⟩
    rw [hx] at this; cases this
  ·intros; omega
 ·simp only [List.length_append, List.length_cons, List.length_nil] at ha
  simp only
  rw [js (by omega)]
  by_cases h1 : a < s.lat.length
  ·rw [if_pos h1]; exact ho.kinds a h1
  ·rw [if_neg h1]
   rcases hx with hx | ⟨hx, _⟩
   ·exact .inl hx
   ·exact .inr hx
theorem XP {l : List Ev} {i : Nat} {y : Ev} (hi : i < l.length) {g : Nat → Nat → AV} (h1 : ∀ o, o < 9 → g i o = y.cell o) (h2 : ∀ j o, j ≠ i → g j o = evG l j o) : eqG l.length 9 g (evG (l.set i y)) := by
 intro j o hj ho
 unfold evG
 rw [qU hi]
 by_cases e : j = i
 ·rw [if_pos e, e]; exact h1 o ho
 ·rw [if_neg e]; exact h2 j o e
theorem u0 {s : SS} (ho : s.ok) {e : Ev} (ht : 0 < e.target) : (s.cor e).ok ∧ (s.cor e).lat.length = s.lat.length ∧ (s.cor e).evs = s.evs := by
 unfold SS.cor
 by_cases h : s.errC e = 0
 ·rw [if_pos h]
  unfold SS.errC at h
  by_cases h1 : (s.lat.length : Int) < e.target ∨ (s.fact e).kind = 0
  ·rw [if_pos h1] at h; cases h
  ·have hi : e.target.toNat - 1 < s.lat.length := by omega
   refine ⟨?_, by simp, rfl⟩
   unfold SS.fixed
   split
   ·exact XT ho hi
   ·exact zc0 ho hi rfl rfl
 ·rw [if_neg h]; exact ⟨ho, rfl, rfl⟩
theorem WU {s : SS} (ho : s.ok) (e : Ev) : (s.add e).ok := by
 unfold SS.add
 by_cases h : s.errA e = 0
 ·rw [if_neg (by simpa using h)]
  unfold SS.errA at h
  by_cases h1 : e.valid = false ∨ e.id ≠ s.evs.length + 1
  ·rw [if_pos h1] at h; cases h
  ·rw [if_neg h1] at h
   by_cases h2 : 0 < s.evs.length ∧ e.entry < (s.evs.getD (s.evs.length - 1) Ev.nil).entry
   ·rw [if_pos h2] at h; cases h
   ·rw [if_neg h2] at h
    by_cases h3 : 1000 ≤ s.evs.length
    ·rw [if_pos h3] at h; cases h
    ·rw [if_neg h3] at h
     by_cases ht : 0 < e.target
     ·rw [if_pos ht]
      obtain ⟨c1, c2, c3⟩ := u0 ho ht
      have := Yi c1 (e := e) (x := Ev.nil) (.inl rfl)
      rw [c3] at this
      exact this
     ·rw [if_neg ht] at h ⊢
      by_cases h4 : zq s.lat e.key = true
      ·rw [if_pos h4] at h; cases h
      ·refine Yi ho (.inr ⟨?_, by simpa using h4⟩)
       have hv : e.valid = true := by
        cases hv : e.valid
        ·exact absurd (.inl hv) h1
        ·rfl
       unfold Ev.valid at hv
       by_cases k1 : e.kind = 1
       ·exact .inl k1
       ·by_cases k2 : e.kind = 2
        ·exact .inr k2
        ·rw [if_neg k1, if_neg k2] at hv
         simp only [Bool.and_eq_true, inB, decide_eq_true_eq] at hv
         omega
 ·rw [if_pos h]; exact ho
end Go.Nov
namespace Go.Nov
def SS.play (s : SS) : List Ev → Option SS
 | [] => some s
 | e :: l => if s.errA e = 0 then (s.add e).play l else none
end Go.Nov
namespace Go.Nov
theorem KT {s : SS} {l : List Ev} {i : Nat} (h : i < l.length) : s.play (l.drop i) = if s.errA (l.getD i Ev.nil) = 0 then (s.add (l.getD i Ev.nil)).play (l.drop (i + 1)) else none := by
 rw [List.drop_eq_getElem_cons h, zR h]
 rfl
theorem uo {s : SS} {e : Ev} (h : s.errA e = 0) : (s.add e).evs = s.evs ++ [e] ∧ s.evs.length < 1000 := by
 have h2 : s.evs.length < 1000 := by
  refine Decidable.byContradiction fun g => ?_
  unfold SS.errA at h
  split at h
  ·cases h
  split at h
  ·cases h
  ·rw [if_pos (by omega)] at h; cases h
 refine ⟨?_, h2⟩
 unfold SS.add
 rw [if_neg (by simpa using h)]
 split <;> rfl
theorem kP {l : List Ev} (h : ∀ e ∈ l, zB e) (i : Nat) : zB (l.getD i Ev.nil) := by
 by_cases hi : i < l.length
 ·rw [zR hi]; exact h _ (List.getElem_mem hi)
 ·have : l.getD i Ev.nil = Ev.nil := by simp [List.getD, List.getElem?_eq_none (Nat.le_of_not_lt hi)]
  rw [this]; exact ⟨by decide, by decide, by decide⟩
end Go.Nov
namespace Go.Nov
theorem Kz : ∀ {l : List Ev} {s t : SS}, s.ok → s.evs.length ≤ 1000 → s.play l = some t → t.ok ∧ t.evs = s.evs ++ l ∧ t.evs.length ≤ 1000
 | [], s, t, ho, hl, h => by cases h; exact ⟨ho, by simp, hl⟩
 | e :: l, s, t, ho, hl, h => by
  simp only [SS.play] at h
  by_cases g : s.errA e = 0
  ·rw [if_pos g] at h
   obtain ⟨a1, a2⟩ := uo g
   obtain ⟨b1, b2, b3⟩ := Kz (WU ho e) (by rw [a1]; simp; omega) h
   exact ⟨b1, by rw [b2, a1]; simp, b3⟩
  ·rw [if_neg g] at h; cases h
theorem Ve : SS.ok ⟨[], []⟩ := ⟨rfl, fun _ _ h => by simp at h, fun _ h => by simp at h⟩
theorem Ke {l : List Ev} {t : SS} (h : SS.play ⟨[], []⟩ l = some t) : t.ok ∧ t.evs = l ∧ t.evs.length ≤ 1000 := by
 obtain ⟨a, b, c⟩ := Kz Ve (by simp) h
 exact ⟨a, by simpa using b, c⟩
end Go.Nov
end

/- The store's state: corrections. -/
section
set_option maxRecDepth 100000
open Go Go.Sx Go.Proofs Go.Nov
namespace Go.Proofs.Try
attribute [local simp] eqKV eqA eqA0 eqH eqB eqL eqL0
def HSt (s : SS) : Heap := [.box [.osl 1 9 0 s.evs.length, .omap 2, .osl 3 9 0 s.lat.length], .arr s.evs.length 9 (evG s.evs), .map true [.inl .u8, .inr false, .inr false, .inl .i64] (zq s.lat) (zy s.lat), .arr s.lat.length 9 (evG s.lat)]
noncomputable def Vr : Ctr := inlC Try.prog noG 100 Try.f52
theorem W5 : zd Try.prog 52 Vr := QJ hmix z7 rfl rfl
def corC : Ctr := ctrM 1 (fun p : SS × Ev => [.ptr 0 0, p.2.av]) (fun p => HSt p.1) (fun p => p.1.ok ∧ p.1.lat.length ≤ 1000 ∧ 0 < p.2.target) (fun p (r : Int) => r = p.1.errC p.2) (fun p r => (.int .i64 r, HSt (p.1.cor p.2)))
noncomputable def GCo : Nat → Option Ctr := fun f => if f = 52 then some (Vr) else none
theorem zcr : ∀ g c, GCo g = some c → zd Try.prog g c := okIf W5 (zu)
theorem zcm : zd Try.prog 51 corC := by
 refine Ks (fn := Try.f51) (c := Try.f51.body.getD .skip) rfl rfl rfl fun p hp O w0 σ0 Q hl0 hq => ?_
 obtain ⟨⟨evs, lat⟩, e⟩ := p
 obtain ⟨ho, hl, ht⟩ := hp
 replace hq := hq _ rfl
 simp only at hq ho hl ht
 refine zc.run hmix zcr [] 400 (T := .side (decide ((↑lat.length : Int) < Ev.target e) = false → inR .i64 (Ev.target e - (1 : Int))) (.side (decide ((↑lat.length : Int) < Ev.target e) = false → (0 : Int) ≤ Ev.target e - (1 : Int) ∧ Ev.target e - (1 : Int) < lat.length) (.ite (bif decide ((↑lat.length : Int) < Ev.target e) then true else decide (Ev.kind (List.getD lat (0 + Int.toNat (Ev.target e - (1 : Int))) Ev.nil) = (0 : Int))) (.leaf (.ret [.int .i64 6] [.box [.osl 1 9 0 evs.length, .omap 2, .osl 3 9 0 lat.length], .arr evs.length 9 (evG evs), Blk.map true [Sum.inl .u8, Sum.inr false, Sum.inr false, Sum.inl .i64] (zq lat) (zy lat), .arr lat.length 9 (evG lat), .box [.int .u8 e.kind, .int .i64 e.id, .int .i64 e.entry, .int .i64 e.target, .int .i64 e.date, .str e.zb, .str e.name, .str e.value, .bool e.first]])) (.side (inR .i64 (Ev.target e - (1 : Int))) (.side ((0 : Int) ≤ Ev.target e - (1 : Int) ∧ Ev.target e - (1 : Int) < lat.length) (.ite (decide (Ev.kind e = 5)) (.leaf (.ret [.int .i64 0] [.box [.osl 1 9 0 evs.length, .omap 2, .osl 3 9 0 lat.length], .arr evs.length 9 (evG evs), Blk.map true [Sum.inl .u8, Sum.inr false, Sum.inr false, Sum.inl .i64] (yz (zq lat) [Sum.inl (Ev.kind (List.getD (SS.lat { evs := evs, lat := lat }) (0 + Int.toNat (Ev.target e - (1 : Int))) Ev.nil)), Sum.inr (Ev.zb (List.getD (SS.lat { evs := evs, lat := lat }) (0 + Int.toNat (Ev.target e - (1 : Int))) Ev.nil)), Sum.inr (Ev.name (List.getD (SS.lat { evs := evs, lat := lat }) (0 + Int.toNat (Ev.target e - (1 : Int))) Ev.nil)), Sum.inl (Ev.date (List.getD (SS.lat { evs := evs, lat := lat }) (0 + Int.toNat (Ev.target e - (1 : Int))) Ev.nil))]) (zy lat), .arr lat.length 9 (updG (evG lat) (0 + Int.toNat (Ev.target e - (1 : Int))) 0 [.int .u8 0, .int .i64 0, .int .i64 0, .int .i64 0, .int .i64 0, .str (Array.toList #[]), .str (Array.toList #[]), .str (Array.toList #[]), .bool false]), .box [.int .u8 e.kind, .int .i64 e.id, .int .i64 e.entry, .int .i64 e.target, .int .i64 e.date, .str e.zb, .str e.name, .str e.value, .bool e.first], .box [.int .u8 (Ev.kind (List.getD lat (0 + Int.toNat (Ev.target e - (1 : Int))) Ev.nil)), .int .i64 (Ev.id (List.getD lat (0 + Int.toNat (Ev.target e - (1 : Int))) Ev.nil)), .int .i64 (Ev.entry (List.getD lat (0 + Int.toNat (Ev.target e - (1 : Int))) Ev.nil)), .int .i64 (Ev.target (List.getD lat (0 + Int.toNat (Ev.target e - (1 : Int))) Ev.nil)), .int .i64 (Ev.date (List.getD lat (0 + Int.toNat (Ev.target e - (1 : Int))) Ev.nil)), .str (Ev.zb (List.getD lat (0 + Int.toNat (Ev.target e - (1 : Int))) Ev.nil)), .str (Ev.name (List.getD lat (0 + Int.toNat (Ev.target e - (1 : Int))) Ev.nil)), .str (Ev.value (List.getD lat (0 + Int.toNat (Ev.target e - (1 : Int))) Ev.nil)), .bool (Ev.first (List.getD lat (0 + Int.toNat (Ev.target e - (1 : Int))) Ev.nil))], .box [.int .u8 (Ev.kind (List.getD lat (0 + Int.toNat (Ev.target e - (1 : Int))) Ev.nil)), .str (Ev.zb (List.getD lat (0 + Int.toNat (Ev.target e - (1 : Int))) Ev.nil)), .str (Ev.name (List.getD lat (0 + Int.toNat (Ev.target e - (1 : Int))) Ev.nil)), .int .i64 (Ev.date (List.getD lat (0 + Int.toNat (Ev.target e - (1 : Int))) Ev.nil))]])) (.ite (!decide (Ev.kind e = 3) == decide (Ev.kind (List.getD lat (0 + Int.toNat (Ev.target e - (1 : Int))) Ev.nil) = (1 : Int))) (.leaf (.ret [.int .i64 32] [.box [.osl 1 9 0 evs.length, .omap 2, .osl 3 9 0 lat.length], .arr evs.length 9 (evG evs), Blk.map true [Sum.inl .u8, Sum.inr false, Sum.inr false, Sum.inl .i64] (zq lat) (zy lat), .arr lat.length 9 (evG lat), .box [.int .u8 e.kind, .int .i64 e.id, .int .i64 e.entry, .int .i64 e.target, .int .i64 e.date, .str e.zb, .str e.name, .str e.value, .bool e.first]])) (.leaf (.ret [.int .i64 0] [.box [.osl 1 9 0 evs.length, .omap 2, .osl 3 9 0 lat.length], .arr evs.length 9 (evG evs), Blk.map true [Sum.inl .u8, Sum.inr false, Sum.inr false, Sum.inl .i64] (zq lat) (zy lat), .arr lat.length 9 (updG (updG (evG lat) (0 + Int.toNat (Ev.target e - (1 : Int))) 7 [.str e.value]) (0 + Int.toNat (Ev.target e - (1 : Int))) 8 [.bool e.first]), .box [.int .u8 e.kind, .int .i64 e.id, .int .i64 e.entry, .int .i64 e.target, .int .i64 e.date, .str e.zb, .str e.name, .str e.value, .bool e.first]]))))))))) (by kernel_rfl) ?_
 simp only [Tree.holds, ze]
 have ei : (e.target - 1).toNat = e.target.toNat - 1 := by omega
 simp only [ei, Nat.zero_add, inR, lo, hi]
 have hfx : SS.fact ⟨evs, lat⟩ e = lat.getD (e.target.toNat - 1) Ev.nil := rfl
 have fin : ∀ (r : Int) (h : Heap) (b1 b2 b3 b4 : Blk) (rest : Heap), h = b1 :: b2 :: b3 :: b4 :: rest → r = SS.errC ⟨evs, lat⟩ e → eqH (expH (b1 :: b2 :: b3 :: b4 :: rest) [0, 1, 2, 3]) (HSt (SS.cor ⟨evs, lat⟩ e)) → RetR corC 4 Q [.int .i64 r] h := by
  rintro r h b1 b2 b3 b4 rest rfl rfl he
  exact RetR.keep [0, 1, 2, 3] rfl (by simp) (by show ∀ j, j < 4 → _; decide) rfl hq (by simp [resV, exp2, exp1, exp0, ren0, eqA2, eqL1]) he rfl
 refine ⟨fun h => by have := of_decide_eq_false h; omega, fun _ => ⟨fun h => by have := of_decide_eq_false h; omega, fun _ => ⟨fun h => ?_, fun h => ?_⟩⟩⟩
 ·have h6 : SS.errC ⟨evs, lat⟩ e = 6 := by
   unfold SS.errC
   rw [if_pos]
   rw [hfx]
   cases hd : decide ((lat.length : Int) < e.target) with
   | true => exact .inl (of_decide_eq_true hd)
   | false => rw [hd] at h; exact .inr (of_decide_eq_true h)
  refine fin _ _ _ _ _ _ _ rfl h6.symm ?_
  unfold SS.cor
  rw [if_neg (by rw [h6]; decide)]
  simp [expH, expB, exp1, exp0, ren0, zp, HSt, za]
 ·have h6 : ¬ ((lat.length : Int) < e.target ∨ (SS.fact ⟨evs, lat⟩ e).kind = 0) := by
   rw [hfx]
   cases hd : decide ((lat.length : Int) < e.target) with
   | true => rw [hd] at h; cases h
   | false =>
    rw [hd] at h
    rintro (g | g)
    ·exact absurd g (of_decide_eq_false hd)
    ·exact absurd g (of_decide_eq_false h)
  have hlt : (e.target : Int) ≤ lat.length := by omega
  have hil : e.target.toNat - 1 < lat.length := by omega
  have hk0 : (lat.getD (e.target.toNat - 1) Ev.nil).kind ≠ 0 := fun g => h6 (.inr (by rw [hfx]; exact g))
  refine ⟨by omega, fun _ => ⟨by omega, fun _ => ⟨fun h5 => ?_, fun h5 => ⟨fun h3 => ?_, fun h3 => ?_⟩⟩⟩⟩
  ·have h5 : e.kind = 5 := of_decide_eq_true h5
   have hr : SS.errC ⟨evs, lat⟩ e = 0 := by unfold SS.errC; rw [if_neg h6, if_pos h5]
   refine fin _ _ _ _ _ _ _ rfl hr.symm ?_
   have hc : SS.cor ⟨evs, lat⟩ e = ⟨evs, lat.set (e.target.toNat - 1) Ev.nil⟩ := by unfold SS.cor SS.fixed; rw [if_pos hr, if_pos h5]
   rw [hc]
   refine ⟨by simp [expB, exp1, exp0, ren0, zp], by simp [expB, za], ⟨⟨rfl, .inl rfl⟩, rfl, fun k => Uf ho hil hk0 k, fun k hk => ?_⟩, ⟨by simp, rfl, XP hil ?_ ?_⟩, trivial⟩
   ·refine Xn ho hil ?_
    rw [← Uf ho hil hk0 k]
    exact hk
   ·intro o ho
    simp only [updG]
    rcases (show o = 0 ∨ o = 1 ∨ o = 2 ∨ o = 3 ∨ o = 4 ∨ o = 5 ∨ o = 6 ∨ o = 7 ∨ o = 8 by omega) with rfl | rfl | rfl | rfl | rfl | rfl | rfl | rfl | rfl <;> rfl
   ·intro j o hj
    simp only [updG]
    rw [if_neg (fun g => hj g.1)]
  ·have h5 : ¬ e.kind = 5 := of_decide_eq_false h5
   have h32 : decide (e.kind = 3) ≠ decide ((SS.fact ⟨evs, lat⟩ e).kind = 1) := by
    rw [hfx]; intro g; rw [g] at h3; simp at h3
   have hr : SS.errC ⟨evs, lat⟩ e = 32 := by unfold SS.errC; rw [if_neg h6, if_neg h5, if_pos h32]
   refine fin _ _ _ _ _ _ _ rfl hr.symm ?_
   unfold SS.cor
   rw [if_neg (by rw [hr]; decide)]
   simp [expH, expB, exp1, exp0, ren0, zp, HSt, za]
  ·have h5 : ¬ e.kind = 5 := of_decide_eq_false h5
   have h32 : ¬ decide (e.kind = 3) ≠ decide ((SS.fact ⟨evs, lat⟩ e).kind = 1) := by
    rw [hfx]; intro g
    generalize decide (e.kind = 3) = x at h3 g
    generalize decide ((lat.getD (e.target.toNat - 1) Ev.nil).kind = 1) = y at h3 g
    cases x <;> cases y <;> simp at h3 g
   have hr : SS.errC ⟨evs, lat⟩ e = 0 := by unfold SS.errC; rw [if_neg h6, if_neg h5, if_neg h32]
   refine fin _ _ _ _ _ _ _ rfl hr.symm ?_
   have hc : SS.cor ⟨evs, lat⟩ e = ⟨evs, lat.set (e.target.toNat - 1) { lat.getD (e.target.toNat - 1) Ev.nil with value := e.value, first := e.first }⟩ := by unfold SS.cor SS.fixed; rw [if_pos hr, if_neg h5]; rfl
   rw [hc]
   have lv := fun k => zc1 (l := lat) (i := e.target.toNat - 1) (y := { lat.getD (e.target.toNat - 1) Ev.nil with value := e.value, first := e.first }) hil rfl rfl k
   refine ⟨by simp [expB, exp1, exp0, ren0, zp], by simp [expB, za], ⟨⟨rfl, .inl rfl⟩, rfl, fun k => (lv k).1, fun k _ => (lv k).2⟩, ⟨by simp, rfl, XP hil ?_ ?_⟩, trivial⟩
   ·intro o ho
    simp only [updG]
    rcases (show o = 0 ∨ o = 1 ∨ o = 2 ∨ o = 3 ∨ o = 4 ∨ o = 5 ∨ o = 6 ∨ o = 7 ∨ o = 8 by omega) with rfl | rfl | rfl | rfl | rfl | rfl | rfl | rfl | rfl <;> rfl
   ·intro j o hj
    simp only [updG]
    rw [if_neg (fun g => hj g.1), if_neg (fun g => hj g.1)]
end Go.Proofs.Try
end

/- The store's state: events added. -/
section
set_option maxRecDepth 100000
open Go Go.Sx Go.Proofs Go.Nov
namespace Go.Proofs.Try
attribute [local simp] eqKV eqA eqA0 eqH eqB eqL eqL0
theorem vE {A B : Prop} (ha : A) (hb : B) : (∃ _ : Bool, True) ∧ ∀ n : Bool, True → (n = true → A) ∧ (n = false → B) := ⟨⟨true, trivial⟩, fun _ _ => ⟨fun _ => ha, fun _ => hb⟩⟩
theorem Kn (x y : Bool) : (bif x then y else false) = (x && y) := by cases x <;> rfl
def addC : Ctr := ctrM 1 (fun p : SS × Ev => [.ptr 0 0, p.2.av]) (fun p => HSt p.1) (fun p => p.1.ok ∧ p.1.evs.length ≤ 1000 ∧ zB p.2) (fun p (r : Int) => r = p.1.errA p.2) (fun p r => (.int .i64 r, HSt (p.1.add p.2)))
noncomputable def GAd : Nat → Option Ctr := fun f => if f = 52 then some (Vr) else if f = 51 then some (corC) else if f = 50 then some (ur) else none
theorem zc9 : ∀ g c, GAd g = some c → zd Try.prog g c := okIf W5 (okIf zcm (okIf Xt (zu)))
theorem KA : zd Try.prog 30 addC := by
 refine Ks (fn := Try.f30) (c := Try.f30.body.getD .skip) rfl rfl rfl fun p hp O w0 σ0 Q hl0 hq => ?_
 obtain ⟨⟨evs, lat⟩, e⟩ := p
 obtain ⟨ho, hl, hs⟩ := hp
 replace hq := hq _ rfl
 simp only at hq ho hl hs
 refine zc.run hmix zc9 [] 400 (T := .ex (fun (x : Ev) => eqL [AV.agg [AV.int .u8 e.kind, AV.int .i64 e.id, AV.int .i64 e.entry, AV.int .i64 e.target, AV.int .i64 e.date, AV.str e.zb, AV.str e.name, AV.str e.value, AV.bool e.first]] [AV.agg [AV.int .u8 x.kind, AV.int .i64 x.id, AV.int .i64 x.entry, AV.int .i64 x.target, AV.int .i64 x.date, AV.str x.zb, AV.str x.name, AV.str x.value, AV.bool x.first]] ∧ zB x) fun n => .all (fun (r : Int) => r = if Ev.valid n = true then (0 : Int) else (8 : Int)) fun n => .side ((!decide (n = 0)) = false → inR .i64 ((↑evs.length : Int) + (1 : Int))) (.ite (bif !decide (n = 0) then true else !decide (Ev.id e = (↑evs.length : Int) + (1 : Int))) (.leaf (.ret [.int .i64 2] [.box [.osl 1 9 0 evs.length, .omap 2, .osl 3 9 0 lat.length], .arr evs.length 9 (evG evs), Blk.map true [Sum.inl .u8, Sum.inr false, Sum.inr false, Sum.inl .i64] (zq lat) (zy lat), .arr lat.length 9 (evG lat), .box [.int .u8 e.kind, .int .i64 e.id, .int .i64 e.entry, .int .i64 e.target, .int .i64 e.date, .str e.zb, .str e.name, .str e.value, .bool e.first]])) (.side (decide ((0 : Int) < evs.length) = true → inR .i64 ((↑evs.length : Int) - (1 : Int))) (.side (decide ((0 : Int) < evs.length) = true → (0 : Int) ≤ evs.length - (1 : Int) ∧ (↑evs.length : Int) - (1 : Int) < evs.length) (.ite (bif decide ((0 : Int) < evs.length) then decide (Ev.entry e < Ev.entry (List.getD evs (0 + Int.toNat ((↑evs.length : Int) - (1 : Int))) Ev.nil)) else false) (.leaf (.ret [.int .i64 21] [.box [.osl 1 9 0 evs.length, .omap 2, .osl 3 9 0 lat.length], .arr evs.length 9 (evG evs), Blk.map true [Sum.inl .u8, Sum.inr false, Sum.inr false, Sum.inl .i64] (zq lat) (zy lat), .arr lat.length 9 (evG lat), .box [.int .u8 e.kind, .int .i64 e.id, .int .i64 e.entry, .int .i64 e.target, .int .i64 e.date, .str e.zb, .str e.name, .str e.value, .bool e.first]])) (.ite (decide ((1000 : Int) ≤ evs.length)) (.leaf (.ret [.int .i64 22] [.box [.osl 1 9 0 evs.length, .omap 2, .osl 3 9 0 lat.length], .arr evs.length 9 (evG evs), Blk.map true [Sum.inl .u8, Sum.inr false, Sum.inr false, Sum.inl .i64] (zq lat) (zy lat), .arr lat.length 9 (evG lat), .box [.int .u8 e.kind, .int .i64 e.id, .int .i64 e.entry, .int .i64 e.target, .int .i64 e.date, .str e.zb, .str e.name, .str e.value, .bool e.first]])) (.ite (decide ((0 : Int) < Ev.target e)) (.ex (fun (x : SS × Ev) => eqL [AV.ptr 0 0, AV.agg [AV.int .u8 e.kind, AV.int .i64 e.id, AV.int .i64 e.entry, AV.int .i64 e.target, AV.int .i64 e.date, AV.str e.zb, AV.str e.name, AV.str e.value, AV.bool e.first]] [AV.ptr 0 0, AV.agg [AV.int .u8 x.2.kind, AV.int .i64 x.2.id, AV.int .i64 x.2.entry, AV.int .i64 x.2.target, AV.int .i64 x.2.date, AV.str x.2.zb, AV.str x.2.name, AV.str x.2.value, AV.bool x.2.first]] ∧ eqH [.box [AV.osl 1 9 0 evs.length, AV.omap 2, AV.osl 3 9 0 lat.length], .arr evs.length 9 (evG evs), Blk.map true [Sum.inl .u8, Sum.inr false, Sum.inr false, Sum.inl .i64] (zq lat) (zy lat), .arr lat.length 9 (evG lat)] [.box [AV.osl 1 9 0 (List.length (SS.evs x.1)), AV.omap 2, AV.osl 3 9 0 (List.length (SS.lat x.1))], .arr (List.length (SS.evs x.1)) 9 (evG (SS.evs x.1)), Blk.map true [Sum.inl .u8, Sum.inr false, Sum.inr false, Sum.inl .i64] (zq (SS.lat x.1)) (zy (SS.lat x.1)), .arr (List.length (SS.lat x.1)) 9 (evG (SS.lat x.1))] ∧ 4 = 4 ∧ SS.ok x.1 ∧ List.length (SS.lat x.1) ≤ 1000 ∧ (0 : Int) < Ev.target x.2) fun n => .all (fun (r : Int) => r = SS.errC n.1 n.2) fun n_1 => .ite (!decide (n_1 = 0)) (.leaf (.ret [.int .i64 n_1] [.box [.osl 1 9 0 (List.length (SS.evs (SS.cor n.1 n.2))), .omap 2, .osl 3 9 0 (List.length (SS.lat (SS.cor n.1 n.2)))], .arr (List.length (SS.evs (SS.cor n.1 n.2))) 9 (evG (SS.evs (SS.cor n.1 n.2))), Blk.map true [Sum.inl .u8, Sum.inr false, Sum.inr false, Sum.inl .i64] (zq (SS.lat (SS.cor n.1 n.2))) (zy (SS.lat (SS.cor n.1 n.2))), .arr (List.length (SS.lat (SS.cor n.1 n.2))) 9 (evG (SS.lat (SS.cor n.1 n.2))), .box [.int .u8 e.kind, .int .i64 e.id, .int .i64 e.entry, .int .i64 e.target, .int .i64 e.date, .str e.zb, .str e.name, .str e.value, .bool e.first], .box [.int .u8 0, .int .i64 0, .int .i64 0, .int .i64 0, .int .i64 0, .str (Array.toList #[]), .str (Array.toList #[]), .str (Array.toList #[]), .bool false]])) (.all (fun (x : Bool) => True) fun n_2 => .ite n_2 (.all (fun (x : Bool) => True) fun n_3 => .ite n_3 (.side (0 = 0 ∧ List.length (SS.evs (SS.cor n.1 n.2)) ≤ List.length (SS.evs (SS.cor n.1 n.2)) ∧ (List.length (SS.evs (SS.cor n.1 n.2)) + 1) * 96 ≤ 140737488355328) (.side (0 = 0 ∧ List.length (SS.lat (SS.cor n.1 n.2)) = List.length (SS.lat (SS.cor n.1 n.2))) (.side (0 = 0 ∧ List.length (SS.lat (SS.cor n.1 n.2)) ≤ List.length (SS.lat (SS.cor n.1 n.2)) ∧ (List.length (SS.lat (SS.cor n.1 n.2)) + 1) * 96 ≤ 140737488355328) (.leaf (.ret [.int .i64 0] [.box [.osl 1 9 0 (List.length (SS.evs (SS.cor n.1 n.2)) + 1), .omap 2, .osl 3 9 0 (List.length (SS.lat (SS.cor n.1 n.2)) + 1)], .arr (List.length (SS.evs (SS.cor n.1 n.2)) + 1) 9 (appG (List.length (SS.evs (SS.cor n.1 n.2))) (evG (SS.evs (SS.cor n.1 n.2))) (zg (zf 9 [.int .u8 e.kind, .int .i64 e.id, .int .i64 e.entry, .int .i64 e.target, .int .i64 e.date, .str e.zb, .str e.name, .str e.value, .bool e.first]) 0)), Blk.map true [Sum.inl .u8, Sum.inr false, Sum.inr false, Sum.inl .i64] (zq (SS.lat (SS.cor n.1 n.2))) (zy (SS.lat (SS.cor n.1 n.2))), .arr (List.length (SS.lat (SS.cor n.1 n.2)) + 1) 9 (appG (List.length (SS.lat (SS.cor n.1 n.2))) (evG (SS.lat (SS.cor n.1 n.2))) (zg (zf 9 [.int .u8 0, .int .i64 0, .int .i64 0, .int .i64 0, .int .i64 0, .str (Array.toList #[]), .str (Array.toList #[]), .str (Array.toList #[]), .bool false]) 0)), .box [.int .u8 e.kind, .int .i64 e.id, .int .i64 e.entry, .int .i64 e.target, .int .i64 e.date, .str e.zb, .str e.name, .str e.value, .bool e.first], .box [.int .u8 0, .int .i64 0, .int .i64 0, .int .i64 0, .int .i64 0, .str (Array.toList #[]), .str (Array.toList #[]), .str (Array.toList #[]), .bool false], .arr 1 9 (zf 9 [.int .u8 e.kind, .int .i64 e.id, .int .i64 e.entry, .int .i64 e.target, .int .i64 e.date, .str e.zb, .str e.name, .str e.value, .bool e.first]), .arr 1 9 (zf 9 [.int .u8 0, .int .i64 0, .int .i64 0, .int .i64 0, .int .i64 0, .str (Array.toList #[]), .str (Array.toList #[]), .str (Array.toList #[]), .bool false])]))))) (.side (0 = 0 ∧ List.length (SS.evs (SS.cor n.1 n.2)) ≤ List.length (SS.evs (SS.cor n.1 n.2)) ∧ (List.length (SS.evs (SS.cor n.1 n.2)) + 1) * 96 ≤ 140737488355328) (.side (0 = 0 ∧ List.length (SS.lat (SS.cor n.1 n.2)) = List.length (SS.lat (SS.cor n.1 n.2))) (.side (0 = 0 ∧ List.length (SS.lat (SS.cor n.1 n.2)) ≤ List.length (SS.lat (SS.cor n.1 n.2)) ∧ (List.length (SS.lat (SS.cor n.1 n.2)) + 1) * 96 ≤ 140737488355328) (.leaf (.ret [.int .i64 0] [.box [.osl 1 9 0 (List.length (SS.evs (SS.cor n.1 n.2)) + 1), .omap 2, .osl 3 9 0 (List.length (SS.lat (SS.cor n.1 n.2)) + 1)], .arr (List.length (SS.evs (SS.cor n.1 n.2)) + 1) 9 (appG (List.length (SS.evs (SS.cor n.1 n.2))) (evG (SS.evs (SS.cor n.1 n.2))) (zg (zf 9 [.int .u8 e.kind, .int .i64 e.id, .int .i64 e.entry, .int .i64 e.target, .int .i64 e.date, .str e.zb, .str e.name, .str e.value, .bool e.first]) 0)), Blk.map true [Sum.inl .u8, Sum.inr false, Sum.inr false, Sum.inl .i64] (zq (SS.lat (SS.cor n.1 n.2))) (zy (SS.lat (SS.cor n.1 n.2))), .arr (List.length (SS.lat (SS.cor n.1 n.2)) + 1) 9 (appG (List.length (SS.lat (SS.cor n.1 n.2))) (evG (SS.lat (SS.cor n.1 n.2))) (zg (zf 9 [.int .u8 0, .int .i64 0, .int .i64 0, .int .i64 0, .int .i64 0, .str (Array.toList #[]), .str (Array.toList #[]), .str (Array.toList #[]), .bool false]) 0)), .box [.int .u8 e.kind, .int .i64 e.id, .int .i64 e.entry, .int .i64 e.target, .int .i64 e.date, .str e.zb, .str e.name, .str e.value, .bool e.first], .box [.int .u8 0, .int .i64 0, .int .i64 0, .int .i64 0, .int .i64 0, .str (Array.toList #[]), .str (Array.toList #[]), .str (Array.toList #[]), .bool false], .arr 1 9 (zf 9 [.int .u8 e.kind, .int .i64 e.id, .int .i64 e.entry, .int .i64 e.target, .int .i64 e.date, .str e.zb, .str e.name, .str e.value, .bool e.first]), .arr 1 9 (zf 9 [.int .u8 0, .int .i64 0, .int .i64 0, .int .i64 0, .int .i64 0, .str (Array.toList #[]), .str (Array.toList #[]), .str (Array.toList #[]), .bool false])])))))) (.side (0 = 0 ∧ List.length (SS.evs (SS.cor n.1 n.2)) ≤ List.length (SS.evs (SS.cor n.1 n.2)) ∧ (List.length (SS.evs (SS.cor n.1 n.2)) + 1) * 96 ≤ 140737488355328) (.side (0 = 0 ∧ List.length (SS.lat (SS.cor n.1 n.2)) = List.length (SS.lat (SS.cor n.1 n.2))) (.side (0 = 0 ∧ List.length (SS.lat (SS.cor n.1 n.2)) ≤ List.length (SS.lat (SS.cor n.1 n.2)) ∧ (List.length (SS.lat (SS.cor n.1 n.2)) + 1) * 96 ≤ 140737488355328) (.leaf (.ret [.int .i64 0] [.box [.osl 1 9 0 (List.length (SS.evs (SS.cor n.1 n.2)) + 1), .omap 2, .osl 3 9 0 (List.length (SS.lat (SS.cor n.1 n.2)) + 1)], .arr (List.length (SS.evs (SS.cor n.1 n.2)) + 1) 9 (appG (List.length (SS.evs (SS.cor n.1 n.2))) (evG (SS.evs (SS.cor n.1 n.2))) (zg (zf 9 [.int .u8 e.kind, .int .i64 e.id, .int .i64 e.entry, .int .i64 e.target, .int .i64 e.date, .str e.zb, .str e.name, .str e.value, .bool e.first]) 0)), Blk.map true [Sum.inl .u8, Sum.inr false, Sum.inr false, Sum.inl .i64] (zq (SS.lat (SS.cor n.1 n.2))) (zy (SS.lat (SS.cor n.1 n.2))), .arr (List.length (SS.lat (SS.cor n.1 n.2)) + 1) 9 (appG (List.length (SS.lat (SS.cor n.1 n.2))) (evG (SS.lat (SS.cor n.1 n.2))) (zg (zf 9 [.int .u8 0, .int .i64 0, .int .i64 0, .int .i64 0, .int .i64 0, .str (Array.toList #[]), .str (Array.toList #[]), .str (Array.toList #[]), .bool false]) 0)), .box [.int .u8 e.kind, .int .i64 e.id, .int .i64 e.entry, .int .i64 e.target, .int .i64 e.date, .str e.zb, .str e.name, .str e.value, .bool e.first], .box [.int .u8 0, .int .i64 0, .int .i64 0, .int .i64 0, .int .i64 0, .str (Array.toList #[]), .str (Array.toList #[]), .str (Array.toList #[]), .bool false], .arr 1 9 (zf 9 [.int .u8 0, .int .i64 0, .int .i64 0, .int .i64 0, .int .i64 0, .str (Array.toList #[]), .str (Array.toList #[]), .str (Array.toList #[]), .bool false]), .arr 1 9 (zf 9 [.int .u8 e.kind, .int .i64 e.id, .int .i64 e.entry, .int .i64 e.target, .int .i64 e.date, .str e.zb, .str e.name, .str e.value, .bool e.first])]))))))) (.ite (zq lat [Sum.inl e.kind, Sum.inr e.zb, Sum.inr e.name, Sum.inl e.date]) (.ite (decide ((0 : Int) < (↑(List.findIdx (Ev.ji [Sum.inl e.kind, Sum.inr e.zb, Sum.inr e.name, Sum.inl e.date]) lat) : Int) + (1 : Int))) (.leaf (.ret [.int .i64 24] [.box [.osl 1 9 0 evs.length, .omap 2, .osl 3 9 0 lat.length], .arr evs.length 9 (evG evs), Blk.map true [Sum.inl .u8, Sum.inr false, Sum.inr false, Sum.inl .i64] (zq lat) (zy lat), .arr lat.length 9 (evG lat), .box [.int .u8 e.kind, .int .i64 e.id, .int .i64 e.entry, .int .i64 e.target, .int .i64 e.date, .str e.zb, .str e.name, .str e.value, .bool e.first], .box [.int .u8 0, .int .i64 0, .int .i64 0, .int .i64 0, .int .i64 0, .str (Array.toList #[]), .str (Array.toList #[]), .str (Array.toList #[]), .bool false], .box [.int .u8 e.kind, .int .i64 e.id, .int .i64 e.entry, .int .i64 e.target, .int .i64 e.date, .str e.zb, .str e.name, .str e.value, .bool e.first], .box [.int .u8 e.kind, .str e.zb, .str e.name, .int .i64 e.date]])) (.all (fun (x : Int) => True) fun n => .side (n = n) (.all (fun (x : Bool) => True) fun n => .ite n (.all (fun (x : Bool) => True) fun n => .ite n (.side (0 = 0 ∧ evs.length ≤ evs.length ∧ (evs.length + 1) * 96 ≤ 140737488355328) (.side (0 = 0 ∧ lat.length = lat.length) (.side (0 = 0 ∧ lat.length ≤ lat.length ∧ (lat.length + 1) * 96 ≤ 140737488355328) (.leaf (.ret [.int .i64 0] [.box [.osl 1 9 0 (evs.length + 1), .omap 2, .osl 3 9 0 (lat.length + 1)], .arr (evs.length + 1) 9 (appG evs.length (evG evs) (zg (zf 9 [.int .u8 e.kind, .int .i64 e.id, .int .i64 e.entry, .int .i64 e.target, .int .i64 e.date, .str e.zb, .str e.name, .str e.value, .bool e.first]) 0)), Blk.map true [Sum.inl .u8, Sum.inr false, Sum.inr false, Sum.inl .i64] (ja (zq lat) [Sum.inl e.kind, Sum.inr e.zb, Sum.inr e.name, Sum.inl e.date]) (zC (zC (zy lat) [Sum.inl e.kind, Sum.inr e.zb, Sum.inr e.name, Sum.inl e.date] .undef) [Sum.inl e.kind, Sum.inr e.zb, Sum.inr e.name, Sum.inl e.date] (.int .i64 e.id)), .arr (lat.length + 1) 9 (appG lat.length (evG lat) (zg (zf 9 [.int .u8 e.kind, .int .i64 e.id, .int .i64 e.entry, .int .i64 e.target, .int .i64 e.date, .str e.zb, .str e.name, .str e.value, .bool e.first]) 0)), .box [.int .u8 e.kind, .int .i64 e.id, .int .i64 e.entry, .int .i64 e.target, .int .i64 e.date, .str e.zb, .str e.name, .str e.value, .bool e.first], .box [.int .u8 e.kind, .int .i64 e.id, .int .i64 e.entry, .int .i64 e.target, .int .i64 e.date, .str e.zb, .str e.name, .str e.value, .bool e.first], .box [.int .u8 e.kind, .int .i64 e.id, .int .i64 e.entry, .int .i64 e.target, .int .i64 e.date, .str e.zb, .str e.name, .str e.value, .bool e.first], .box [.int .u8 e.kind, .str e.zb, .str e.name, .int .i64 e.date], .box [.int .u8 e.kind, .int .i64 e.id, .int .i64 e.entry, .int .i64 e.target, .int .i64 e.date, .str e.zb, .str e.name, .str e.value, .bool e.first], .box [.int .u8 e.kind, .str e.zb, .str e.name, .int .i64 e.date], .arr 1 9 (zf 9 [.int .u8 e.kind, .int .i64 e.id, .int .i64 e.entry, .int .i64 e.target, .int .i64 e.date, .str e.zb, .str e.name, .str e.value, .bool e.first]), .arr 1 9 (zf 9 [.int .u8 e.kind, .int .i64 e.id, .int .i64 e.entry, .int .i64 e.target, .int .i64 e.date, .str e.zb, .str e.name, .str e.value, .bool e.first])]))))) (.side (0 = 0 ∧ evs.length ≤ evs.length ∧ (evs.length + 1) * 96 ≤ 140737488355328) (.side (0 = 0 ∧ lat.length = lat.length) (.side (0 = 0 ∧ lat.length ≤ lat.length ∧ (lat.length + 1) * 96 ≤ 140737488355328) (.leaf (.ret [.int .i64 0] [.box [.osl 1 9 0 (evs.length + 1), .omap 2, .osl 3 9 0 (lat.length + 1)], .arr (evs.length + 1) 9 (appG evs.length (evG evs) (zg (zf 9 [.int .u8 e.kind, .int .i64 e.id, .int .i64 e.entry, .int .i64 e.target, .int .i64 e.date, .str e.zb, .str e.name, .str e.value, .bool e.first]) 0)), Blk.map true [Sum.inl .u8, Sum.inr false, Sum.inr false, Sum.inl .i64] (ja (zq lat) [Sum.inl e.kind, Sum.inr e.zb, Sum.inr e.name, Sum.inl e.date]) (zC (zC (zy lat) [Sum.inl e.kind, Sum.inr e.zb, Sum.inr e.name, Sum.inl e.date] .undef) [Sum.inl e.kind, Sum.inr e.zb, Sum.inr e.name, Sum.inl e.date] (.int .i64 e.id)), .arr (lat.length + 1) 9 (appG lat.length (evG lat) (zg (zf 9 [.int .u8 e.kind, .int .i64 e.id, .int .i64 e.entry, .int .i64 e.target, .int .i64 e.date, .str e.zb, .str e.name, .str e.value, .bool e.first]) 0)), .box [.int .u8 e.kind, .int .i64 e.id, .int .i64 e.entry, .int .i64 e.target, .int .i64 e.date, .str e.zb, .str e.name, .str e.value, .bool e.first], .box [.int .u8 e.kind, .int .i64 e.id, .int .i64 e.entry, .int .i64 e.target, .int .i64 e.date, .str e.zb, .str e.name, .str e.value, .bool e.first], .box [.int .u8 e.kind, .int .i64 e.id, .int .i64 e.entry, .int .i64 e.target, .int .i64 e.date, .str e.zb, .str e.name, .str e.value, .bool e.first], .box [.int .u8 e.kind, .str e.zb, .str e.name, .int .i64 e.date], .box [.int .u8 e.kind, .int .i64 e.id, .int .i64 e.entry, .int .i64 e.target, .int .i64 e.date, .str e.zb, .str e.name, .str e.value, .bool e.first], .box [.int .u8 e.kind, .str e.zb, .str e.name, .int .i64 e.date], .arr 1 9 (zf 9 [.int .u8 e.kind, .int .i64 e.id, .int .i64 e.entry, .int .i64 e.target, .int .i64 e.date, .str e.zb, .str e.name, .str e.value, .bool e.first]), .arr 1 9 (zf 9 [.int .u8 e.kind, .int .i64 e.id, .int .i64 e.entry, .int .i64 e.target, .int .i64 e.date, .str e.zb, .str e.name, .str e.value, .bool e.first])])))))) (.side (0 = 0 ∧ evs.length ≤ evs.length ∧ (evs.length + 1) * 96 ≤ 140737488355328) (.side (0 = 0 ∧ lat.length = lat.length) (.side (0 = 0 ∧ lat.length ≤ lat.length ∧ (lat.length + 1) * 96 ≤ 140737488355328) (.leaf (.ret [.int .i64 0] [.box [.osl 1 9 0 (evs.length + 1), .omap 2, .osl 3 9 0 (lat.length + 1)], .arr (evs.length + 1) 9 (appG evs.length (evG evs) (zg (zf 9 [.int .u8 e.kind, .int .i64 e.id, .int .i64 e.entry, .int .i64 e.target, .int .i64 e.date, .str e.zb, .str e.name, .str e.value, .bool e.first]) 0)), Blk.map true [Sum.inl .u8, Sum.inr false, Sum.inr false, Sum.inl .i64] (ja (zq lat) [Sum.inl e.kind, Sum.inr e.zb, Sum.inr e.name, Sum.inl e.date]) (zC (zC (zy lat) [Sum.inl e.kind, Sum.inr e.zb, Sum.inr e.name, Sum.inl e.date] .undef) [Sum.inl e.kind, Sum.inr e.zb, Sum.inr e.name, Sum.inl e.date] (.int .i64 e.id)), .arr (lat.length + 1) 9 (appG lat.length (evG lat) (zg (zf 9 [.int .u8 e.kind, .int .i64 e.id, .int .i64 e.entry, .int .i64 e.target, .int .i64 e.date, .str e.zb, .str e.name, .str e.value, .bool e.first]) 0)), .box [.int .u8 e.kind, .int .i64 e.id, .int .i64 e.entry, .int .i64 e.target, .int .i64 e.date, .str e.zb, .str e.name, .str e.value, .bool e.first], .box [.int .u8 e.kind, .int .i64 e.id, .int .i64 e.entry, .int .i64 e.target, .int .i64 e.date, .str e.zb, .str e.name, .str e.value, .bool e.first], .box [.int .u8 e.kind, .int .i64 e.id, .int .i64 e.entry, .int .i64 e.target, .int .i64 e.date, .str e.zb, .str e.name, .str e.value, .bool e.first], .box [.int .u8 e.kind, .str e.zb, .str e.name, .int .i64 e.date], .box [.int .u8 e.kind, .int .i64 e.id, .int .i64 e.entry, .int .i64 e.target, .int .i64 e.date, .str e.zb, .str e.name, .str e.value, .bool e.first], .box [.int .u8 e.kind, .str e.zb, .str e.name, .int .i64 e.date], .arr 1 9 (zf 9 [.int .u8 e.kind, .int .i64 e.id, .int .i64 e.entry, .int .i64 e.target, .int .i64 e.date, .str e.zb, .str e.name, .str e.value, .bool e.first]), .arr 1 9 (zf 9 [.int .u8 e.kind, .int .i64 e.id, .int .i64 e.entry, .int .i64 e.target, .int .i64 e.date, .str e.zb, .str e.name, .str e.value, .bool e.first])])))))))) (.ite false (.leaf (.ret [.int .i64 24] [.box [.osl 1 9 0 evs.length, .omap 2, .osl 3 9 0 lat.length], .arr evs.length 9 (evG evs), Blk.map true [Sum.inl .u8, Sum.inr false, Sum.inr false, Sum.inl .i64] (zq lat) (zy lat), .arr lat.length 9 (evG lat), .box [.int .u8 e.kind, .int .i64 e.id, .int .i64 e.entry, .int .i64 e.target, .int .i64 e.date, .str e.zb, .str e.name, .str e.value, .bool e.first], .box [.int .u8 0, .int .i64 0, .int .i64 0, .int .i64 0, .int .i64 0, .str (Array.toList #[]), .str (Array.toList #[]), .str (Array.toList #[]), .bool false], .box [.int .u8 e.kind, .int .i64 e.id, .int .i64 e.entry, .int .i64 e.target, .int .i64 e.date, .str e.zb, .str e.name, .str e.value, .bool e.first], .box [.int .u8 e.kind, .str e.zb, .str e.name, .int .i64 e.date]])) (.all (fun (x : Int) => True) fun n => .side (n = n) (.all (fun (x : Bool) => True) fun n => .ite n (.all (fun (x : Bool) => True) fun n => .ite n (.side (0 = 0 ∧ evs.length ≤ evs.length ∧ (evs.length + 1) * 96 ≤ 140737488355328) (.side (0 = 0 ∧ lat.length = lat.length) (.side (0 = 0 ∧ lat.length ≤ lat.length ∧ (lat.length + 1) * 96 ≤ 140737488355328) (.leaf (.ret [.int .i64 0] [.box [.osl 1 9 0 (evs.length + 1), .omap 2, .osl 3 9 0 (lat.length + 1)], .arr (evs.length + 1) 9 (appG evs.length (evG evs) (zg (zf 9 [.int .u8 e.kind, .int .i64 e.id, .int .i64 e.entry, .int .i64 e.target, .int .i64 e.date, .str e.zb, .str e.name, .str e.value, .bool e.first]) 0)), Blk.map true [Sum.inl .u8, Sum.inr false, Sum.inr false, Sum.inl .i64] (ja (zq lat) [Sum.inl e.kind, Sum.inr e.zb, Sum.inr e.name, Sum.inl e.date]) (zC (zC (zy lat) [Sum.inl e.kind, Sum.inr e.zb, Sum.inr e.name, Sum.inl e.date] .undef) [Sum.inl e.kind, Sum.inr e.zb, Sum.inr e.name, Sum.inl e.date] (.int .i64 e.id)), .arr (lat.length + 1) 9 (appG lat.length (evG lat) (zg (zf 9 [.int .u8 e.kind, .int .i64 e.id, .int .i64 e.entry, .int .i64 e.target, .int .i64 e.date, .str e.zb, .str e.name, .str e.value, .bool e.first]) 0)), .box [.int .u8 e.kind, .int .i64 e.id, .int .i64 e.entry, .int .i64 e.target, .int .i64 e.date, .str e.zb, .str e.name, .str e.value, .bool e.first], .box [.int .u8 e.kind, .int .i64 e.id, .int .i64 e.entry, .int .i64 e.target, .int .i64 e.date, .str e.zb, .str e.name, .str e.value, .bool e.first], .box [.int .u8 e.kind, .int .i64 e.id, .int .i64 e.entry, .int .i64 e.target, .int .i64 e.date, .str e.zb, .str e.name, .str e.value, .bool e.first], .box [.int .u8 e.kind, .str e.zb, .str e.name, .int .i64 e.date], .box [.int .u8 e.kind, .int .i64 e.id, .int .i64 e.entry, .int .i64 e.target, .int .i64 e.date, .str e.zb, .str e.name, .str e.value, .bool e.first], .box [.int .u8 e.kind, .str e.zb, .str e.name, .int .i64 e.date], .arr 1 9 (zf 9 [.int .u8 e.kind, .int .i64 e.id, .int .i64 e.entry, .int .i64 e.target, .int .i64 e.date, .str e.zb, .str e.name, .str e.value, .bool e.first]), .arr 1 9 (zf 9 [.int .u8 e.kind, .int .i64 e.id, .int .i64 e.entry, .int .i64 e.target, .int .i64 e.date, .str e.zb, .str e.name, .str e.value, .bool e.first])]))))) (.side (0 = 0 ∧ evs.length ≤ evs.length ∧ (evs.length + 1) * 96 ≤ 140737488355328) (.side (0 = 0 ∧ lat.length = lat.length) (.side (0 = 0 ∧ lat.length ≤ lat.length ∧ (lat.length + 1) * 96 ≤ 140737488355328) (.leaf (.ret [.int .i64 0] [.box [.osl 1 9 0 (evs.length + 1), .omap 2, .osl 3 9 0 (lat.length + 1)], .arr (evs.length + 1) 9 (appG evs.length (evG evs) (zg (zf 9 [.int .u8 e.kind, .int .i64 e.id, .int .i64 e.entry, .int .i64 e.target, .int .i64 e.date, .str e.zb, .str e.name, .str e.value, .bool e.first]) 0)), Blk.map true [Sum.inl .u8, Sum.inr false, Sum.inr false, Sum.inl .i64] (ja (zq lat) [Sum.inl e.kind, Sum.inr e.zb, Sum.inr e.name, Sum.inl e.date]) (zC (zC (zy lat) [Sum.inl e.kind, Sum.inr e.zb, Sum.inr e.name, Sum.inl e.date] .undef) [Sum.inl e.kind, Sum.inr e.zb, Sum.inr e.name, Sum.inl e.date] (.int .i64 e.id)), .arr (lat.length + 1) 9 (appG lat.length (evG lat) (zg (zf 9 [.int .u8 e.kind, .int .i64 e.id, .int .i64 e.entry, .int .i64 e.target, .int .i64 e.date, .str e.zb, .str e.name, .str e.value, .bool e.first]) 0)), .box [.int .u8 e.kind, .int .i64 e.id, .int .i64 e.entry, .int .i64 e.target, .int .i64 e.date, .str e.zb, .str e.name, .str e.value, .bool e.first], .box [.int .u8 e.kind, .int .i64 e.id, .int .i64 e.entry, .int .i64 e.target, .int .i64 e.date, .str e.zb, .str e.name, .str e.value, .bool e.first], .box [.int .u8 e.kind, .int .i64 e.id, .int .i64 e.entry, .int .i64 e.target, .int .i64 e.date, .str e.zb, .str e.name, .str e.value, .bool e.first], .box [.int .u8 e.kind, .str e.zb, .str e.name, .int .i64 e.date], .box [.int .u8 e.kind, .int .i64 e.id, .int .i64 e.entry, .int .i64 e.target, .int .i64 e.date, .str e.zb, .str e.name, .str e.value, .bool e.first], .box [.int .u8 e.kind, .str e.zb, .str e.name, .int .i64 e.date], .arr 1 9 (zf 9 [.int .u8 e.kind, .int .i64 e.id, .int .i64 e.entry, .int .i64 e.target, .int .i64 e.date, .str e.zb, .str e.name, .str e.value, .bool e.first]), .arr 1 9 (zf 9 [.int .u8 e.kind, .int .i64 e.id, .int .i64 e.entry, .int .i64 e.target, .int .i64 e.date, .str e.zb, .str e.name, .str e.value, .bool e.first])])))))) (.side (0 = 0 ∧ evs.length ≤ evs.length ∧ (evs.length + 1) * 96 ≤ 140737488355328) (.side (0 = 0 ∧ lat.length = lat.length) (.side (0 = 0 ∧ lat.length ≤ lat.length ∧ (lat.length + 1) * 96 ≤ 140737488355328) (.leaf (.ret [.int .i64 0] [.box [.osl 1 9 0 (evs.length + 1), .omap 2, .osl 3 9 0 (lat.length + 1)], .arr (evs.length + 1) 9 (appG evs.length (evG evs) (zg (zf 9 [.int .u8 e.kind, .int .i64 e.id, .int .i64 e.entry, .int .i64 e.target, .int .i64 e.date, .str e.zb, .str e.name, .str e.value, .bool e.first]) 0)), Blk.map true [Sum.inl .u8, Sum.inr false, Sum.inr false, Sum.inl .i64] (ja (zq lat) [Sum.inl e.kind, Sum.inr e.zb, Sum.inr e.name, Sum.inl e.date]) (zC (zC (zy lat) [Sum.inl e.kind, Sum.inr e.zb, Sum.inr e.name, Sum.inl e.date] .undef) [Sum.inl e.kind, Sum.inr e.zb, Sum.inr e.name, Sum.inl e.date] (.int .i64 e.id)), .arr (lat.length + 1) 9 (appG lat.length (evG lat) (zg (zf 9 [.int .u8 e.kind, .int .i64 e.id, .int .i64 e.entry, .int .i64 e.target, .int .i64 e.date, .str e.zb, .str e.name, .str e.value, .bool e.first]) 0)), .box [.int .u8 e.kind, .int .i64 e.id, .int .i64 e.entry, .int .i64 e.target, .int .i64 e.date, .str e.zb, .str e.name, .str e.value, .bool e.first], .box [.int .u8 e.kind, .int .i64 e.id, .int .i64 e.entry, .int .i64 e.target, .int .i64 e.date, .str e.zb, .str e.name, .str e.value, .bool e.first], .box [.int .u8 e.kind, .int .i64 e.id, .int .i64 e.entry, .int .i64 e.target, .int .i64 e.date, .str e.zb, .str e.name, .str e.value, .bool e.first], .box [.int .u8 e.kind, .str e.zb, .str e.name, .int .i64 e.date], .box [.int .u8 e.kind, .int .i64 e.id, .int .i64 e.entry, .int .i64 e.target, .int .i64 e.date, .str e.zb, .str e.name, .str e.value, .bool e.first], .box [.int .u8 e.kind, .str e.zb, .str e.name, .int .i64 e.date], .arr 1 9 (zf 9 [.int .u8 e.kind, .int .i64 e.id, .int .i64 e.entry, .int .i64 e.target, .int .i64 e.date, .str e.zb, .str e.name, .str e.value, .bool e.first]), .arr 1 9 (zf 9 [.int .u8 e.kind, .int .i64 e.id, .int .i64 e.entry, .int .i64 e.target, .int .i64 e.date, .str e.zb, .str e.name, .str e.value, .bool e.first])])))))))))))))))) (by kernel_rfl) ?_
 simp only [Tree.holds, ze]
 have fin : ∀ (r : Int) (h : Heap) (b1 b2 b3 b4 : Blk) (rest : Heap), h = b1 :: b2 :: b3 :: b4 :: rest → r = SS.errA ⟨evs, lat⟩ e → eqH (expH (b1 :: b2 :: b3 :: b4 :: rest) [0, 1, 2, 3]) (HSt (SS.add ⟨evs, lat⟩ e)) → RetR addC 4 Q [.int .i64 r] h := by
  rintro r h b1 b2 b3 b4 rest rfl rfl he
  exact RetR.keep [0, 1, 2, 3] rfl (by simp) (by show ∀ j, j < 4 → _; decide) rfl hq (by simp [resV, exp2, exp1, exp0, ren0, eqA2, eqL1]) he rfl
 have bad : ∀ (r : Int) (h : Heap) (rest : Heap), h = HSt ⟨evs, lat⟩ ++ rest → r ≠ 0 → SS.errA ⟨evs, lat⟩ e = r → RetR addC 4 Q [.int .i64 r] h := by
  intro r h rest hh hr0 hr
  refine fin _ _ _ _ _ _ _ hh hr.symm ?_
  have : SS.add ⟨evs, lat⟩ e = ⟨evs, lat⟩ := by unfold SS.add; rw [if_pos (by rw [hr]; exact hr0)]
  rw [this]
  simp [expH, expB, exp1, exp0, ren0, zp, HSt, za]
 clear hq
 simp only [inR, lo, hi]
 refine ⟨e, ⟨by simp [Ev.av], hs⟩, ⟨_, rfl⟩, ?_⟩
 rintro _ rfl
 refine ⟨fun _ => by omega, fun _ => ⟨fun h => ?_, fun h => ?_⟩⟩
 ·refine bad _ _ _ rfl (by decide) ?_
  unfold SS.errA
  rw [if_pos]
  cases hv : e.valid with
  | false => exact .inl rfl
  | true =>
   rw [hv] at h
   right
   simpa using h
 have h2 : ¬ (e.valid = false ∨ e.id ≠ evs.length + 1) := by
  cases hv : e.valid with
  | false => rw [hv] at h; simp at h
  | true =>
   rw [hv] at h
   simpa using h
 clear h
 have hv : e.valid = true := by
  cases hv : e.valid
  ·exact absurd (.inl hv) h2
  ·rfl
 have hid : e.id = evs.length + 1 := Decidable.byContradiction fun g => h2 (.inr g)
 refine ⟨fun g => by have := of_decide_eq_true g; omega, fun _ => ⟨fun g => by have := of_decide_eq_true g; omega, fun _ => ⟨fun h => ?_, fun h => ?_⟩⟩⟩
 ·refine bad _ _ _ rfl (by decide) ?_
  unfold SS.errA
  rw [if_neg h2, if_pos]
  rw [Kn, Bool.and_eq_true, decide_eq_true_eq, decide_eq_true_eq] at h
  rw [show 0 + ((evs.length : Int) - 1).toNat = evs.length - 1 by omega] at h
  exact ⟨by simp only; omega, h.2⟩
 have h21 : ¬ (0 < evs.length ∧ e.entry < (evs.getD (evs.length - 1) Ev.nil).entry) := by
  rw [Kn, Bool.and_eq_false_iff, decide_eq_false_iff_not, decide_eq_false_iff_not] at h
  rw [show 0 + ((evs.length : Int) - 1).toNat = evs.length - 1 by omega] at h
  rintro ⟨g1, g2⟩
  rcases h with h | h
  ·omega
  ·exact h g2
 clear h
 refine ⟨fun h => ?_, fun h => ?_⟩
 ·refine bad _ _ _ rfl (by decide) ?_
  unfold SS.errA
  rw [if_neg h2, if_neg h21, if_pos]
  have := of_decide_eq_true h
  simp only; omega
 have h22 : ¬ 1000 ≤ evs.length := by have := of_decide_eq_false h; omega
 clear h
 have hlen := ho.len
 simp only at hlen
 refine ⟨fun ht => ?_, fun ht => ?_⟩
 ·have ht : 0 < e.target := of_decide_eq_true ht
  have hA : SS.errA ⟨evs, lat⟩ e = SS.errC ⟨evs, lat⟩ e := by unfold SS.errA; rw [if_neg h2, if_neg h21, if_neg h22, if_pos ht]
  obtain ⟨c1, c2, c3⟩ := u0 ho ht
  refine ⟨(⟨evs, lat⟩, e), ⟨by simp [Ev.av], by simp [za], trivial, ho, by simp only; omega, ht⟩, ⟨_, rfl⟩, ?_⟩
  rintro _ rfl
  refine ⟨fun h => ?_, fun h => ?_⟩
  ·have h : SS.errC ⟨evs, lat⟩ e ≠ 0 := by simpa using h
   have hc : SS.cor ⟨evs, lat⟩ e = ⟨evs, lat⟩ := by unfold SS.cor; rw [if_neg h]
   refine bad _ _ _ (by simp only [hc]; rfl) h hA
  ·have h : SS.errC ⟨evs, lat⟩ e = 0 := by simpa using h
   dsimp only
   have had : SS.add ⟨evs, lat⟩ e = ⟨(SS.cor ⟨evs, lat⟩ e).evs ++ [e], (SS.cor ⟨evs, lat⟩ e).lat ++ [Ev.nil]⟩ := by
    unfold SS.add; rw [if_neg (by rw [hA, h]; decide), if_pos ht, c3]
   rw [had] at fin
   simp only at c2 c3
   have e1 : (SS.cor ⟨evs, lat⟩ e).evs.length = evs.length := by rw [c3]
   refine vE ?_ ?_
   ·refine vE ?_ ?_ <;> refine ⟨⟨trivial, Nat.le_refl _, by omega⟩, fun _ => ⟨⟨trivial, trivial⟩, fun _ => ⟨⟨trivial, Nat.le_refl _, by omega⟩, fun _ => fin _ _ _ _ _ _ _ rfl (by rw [hA, h]) ?_⟩⟩⟩ <;>
     exact ⟨by simp [expB, exp1, exp0, ren0, zp], ⟨by simp, rfl, wS (x := e) (za _ _ _)⟩, ⟨⟨rfl, .inl rfl⟩, rfl, fun k => (yp k).1, fun k hk => (yp k).2 (by rw [← (yp k).1]; exact hk)⟩, ⟨by simp, rfl, wS (x := Ev.nil) (za _ _ _)⟩, trivial⟩
   ·refine ⟨⟨trivial, Nat.le_refl _, by omega⟩, fun _ => ⟨⟨trivial, trivial⟩, fun _ => ⟨⟨trivial, Nat.le_refl _, by omega⟩, fun _ => fin _ _ _ _ _ _ _ rfl (by rw [hA, h]) ?_⟩⟩⟩
    exact ⟨by simp [expB, exp1, exp0, ren0, zp], ⟨by simp, rfl, wS (x := e) (za _ _ _)⟩, ⟨⟨rfl, .inl rfl⟩, rfl, fun k => (yp k).1, fun k hk => (yp k).2 (by rw [← (yp k).1]; exact hk)⟩, ⟨by simp, rfl, wS (x := Ev.nil) (za _ _ _)⟩, trivial⟩
 ·have ht : ¬ 0 < e.target := of_decide_eq_false ht
  refine ⟨fun hk => ⟨fun _ => ?_, fun g => by have := of_decide_eq_false g; omega⟩, fun hk => ⟨fun g => (by cases g), fun _ => ⟨⟨0, trivial⟩, fun st _ => ⟨trivial, fun _ => ?_⟩⟩⟩⟩
  ·refine bad _ _ _ rfl (by decide) ?_
   unfold SS.errA
   rw [if_neg h2, if_neg h21, if_neg h22, if_neg ht, if_pos]
   exact hk
  ·have hA : SS.errA ⟨evs, lat⟩ e = 0 := by
    unfold SS.errA
    rw [if_neg h2, if_neg h21, if_neg h22, if_neg ht, if_neg]
    simp only [Ev.key]
    rw [hk]; decide
   have had : SS.add ⟨evs, lat⟩ e = ⟨evs ++ [e], lat ++ [e]⟩ := by unfold SS.add; rw [if_neg (by rw [hA]; decide), if_neg ht]
   rw [had] at fin
   have hk0 : e.kind ≠ 0 := by
    intro g
    unfold Ev.valid at hv
    rw [if_neg (by omega), if_neg (by omega)] at hv
    simp only [Bool.and_eq_true, inB, decide_eq_true_eq] at hv
    omega
   have hmap : eqB (.map true [.inl .u8, .inr false, .inr false, .inl .i64] (ja (zq lat) e.key) (zC (zC (zy lat) e.key .undef) e.key (.int .i64 e.id))) (.map true [.inl .u8, .inr false, .inr false, .inl .i64] (zq (lat ++ [e])) (zy (lat ++ [e]))) := by
    refine ⟨⟨rfl, .inl rfl⟩, rfl, fun k => Uo (s := ⟨evs, lat⟩) hk0 k, fun k hk' => ?_⟩
    rw [Uo (s := ⟨evs, lat⟩) hk0 k] at hk'
    have := Xg (s := ⟨evs, lat⟩) hk0 (by simp only [hlen]; omega) hk k hk'
    rw [← this]
    unfold zC
    split <;> rfl
   refine vE ?_ ?_
   ·refine vE ?_ ?_ <;> refine ⟨⟨trivial, Nat.le_refl _, by omega⟩, fun _ => ⟨⟨trivial, trivial⟩, fun _ => ⟨⟨trivial, Nat.le_refl _, by omega⟩, fun _ => fin _ _ _ _ _ _ _ rfl hA.symm ?_⟩⟩⟩ <;>
     exact ⟨by simp [expB, exp1, exp0, ren0, zp], ⟨by simp, rfl, wS (x := e) (za _ _ _)⟩, hmap, ⟨by simp, rfl, wS (x := e) (za _ _ _)⟩, trivial⟩
   ·refine ⟨⟨trivial, Nat.le_refl _, by omega⟩, fun _ => ⟨⟨trivial, trivial⟩, fun _ => ⟨⟨trivial, Nat.le_refl _, by omega⟩, fun _ => fin _ _ _ _ _ _ _ rfl hA.symm ?_⟩⟩⟩
    exact ⟨by simp [expB, exp1, exp0, ren0, zp], ⟨by simp, rfl, wS (x := e) (za _ _ _)⟩, hmap, ⟨by simp, rfl, wS (x := e) (za _ _ _)⟩, trivial⟩
end Go.Proofs.Try
end

/- A nil slice in a box, taken for one of one's own of no elements. -/
section
namespace Go.Sx
variable [Stat]
section
variable {O : Nat → Prop} {pin : Nat} {w0 : World} {σ0 : List SE} {w : World} {σ : List SE} {P : Program} {st : St} {a : Act} {fn : Func}
theorem ZV {own : Nat → Prop} {i sz : Nat} (he : σ[i]? = some ⟨none, 0⟩) : ∀ (cs : List AV) (j : Nat) (vs : List Value), cs[j]? = some .nils → RepL own w cs σ vs → RepL own w (cs.set j (.osl i sz 0 0)) σ vs
 | [], j, _, h, _ => by simp at h
 | b :: l, 0, vs, h, hr => by
  simp only [List.getElem?_cons_zero, Option.some.injEq] at h
  subst h
  simp only [RepL] at hr
  obtain ⟨v, r, rfl, h1, h2⟩ := hr
  simp only [Rep] at h1
  simp only [List.set_cons_zero, RepL]
  refine ⟨v, r, rfl, ?_, h2⟩
  rw [h1]
  simp only [Rep]
  exact ⟨⟨none, 0⟩, he, by simp, none, 0, rfl, Nat.le_refl _, .inl rfl⟩
 | b :: l, j + 1, vs, h, hr => by
  simp only [List.getElem?_cons_succ] at h
  simp only [RepL] at hr
  obtain ⟨v, r, rfl, h1, h2⟩ := hr
  simp only [List.set_cons_succ, RepL]
  exact ⟨v, r, rfl, h1, ZV he l j r h h2⟩
def K3 (st : St) (i j sz : Nat) (g : Nat → Nat → AV) (cs : List AV) : St := ⟨st.tmps, st.heap.set i (.box (cs.set j (.osl st.heap.length sz 0 0))) ++ [.arr 0 sz g]⟩
theorem Xf (hm : Mod O pin w0 σ0 w σ st a) {i j sz : Nat} {g : Nat → Nat → AV} {cs : List AV} (hb : st.heap[i]? = some (.box cs)) (hj : cs[j]? = some .nils) (hno : st.tmps.all qf = true) : Mod O pin w0 σ0 w (σ ++ [⟨none, 0⟩]) (K3 st i j sz g cs) a := by
 obtain ⟨k1, k2, k3⟩ := VO hm.good hm.hp sz g
 have hx := ext_nil (O := O) w σ 0
 have hlt := (List.getElem?_eq_some_iff.1 hb).1
 have hp : HRep (Own O (σ ++ [⟨none, 0⟩])) w (σ ++ [⟨none, 0⟩]) ((st.heap ++ [Blk.arr 0 sz g]).set i (Blk.box (cs.set j (.osl st.heap.length sz 0 0)))) := by
  refine Jr k1 fun e he => ?_
  have h1 := k1.blk i e (.box cs) he (by rw [List.getElem?_append_left hlt]; exact hb)
  simp only [BRep] at h1 ⊢
  obtain ⟨ad, vs, el, q1, q2, q3, q4⟩ := h1
  exact ⟨ad, vs, el, q1, q2, q3, ZV (by rw [← hm.hp.len]; simp) cs j vs hj q4⟩
 rw [List.set_append_left _ _ hlt] at hp
 refine ⟨k2, hp, by simp [K3, hm.size], fun u => ?_, hm.df.ext hx, hm.since.trans ⟨hx, fun _ _ _ => rfl, wx.of k3 (by simp)⟩, hm.lim⟩
 have hu := hm.tm u
 show TRep _ _ _ _ (st.tmps.getD u .undef) _
 have hn : qf (st.tmps.getD u .undef) = true := by
  by_cases hlt : u < st.tmps.length
  ·simp only [List.getD, List.getElem?_eq_getElem hlt, Option.getD_some]
   exact List.all_eq_true.1 hno _ (List.getElem_mem hlt)
  ·simp only [List.getD]
   rw [List.getElem?_eq_none (by omega)]; rfl
 generalize st.tmps.getD u .undef = x at hu hn
 cases x with
 | opt _ _ _ => simp [qf] at hn
 | _ => simp only [TRep] at hu ⊢; exact qn hx k3 _ _ (jv _) hu
theorem zc.KB {M : Option Nat} {Hs : Nat → KV → Heap → Prop} {R : List AV → Heap → Prop} {k : List Item} {kv : KV} {h : Heap} (i j sz : Nat) (g : Nat → Nat → AV) {cs : List AV} (hb : h[i]? = some (.box cs)) (hj : cs[j]? = some .nils) (hno : (pk fn.ntmps kv).all qf = true)
  (H : qA M P fn O pin w0 σ0 Hs R k (mk fn.ntmps kv (h.set i (.box (cs.set j (.osl h.length sz 0 0))) ++ [.arr 0 sz g]))) : qA M P fn O pin w0 σ0 Hs R k (mk fn.ntmps kv h) :=
 fun w σ a hm => H w _ a (Xf hm hb hj hno)
end
end Go.Sx
end

/- A contract with two outcomes. -/
section
namespace Go.Sx
variable [Stat]
variable {P : Program} {fn : Func}
def ctrD {X R : Type} (fresh : Bool) (inp : X → List AV) (pre : X → Prop) (yes : X → Bool) (post : X → R → Prop) (out : X → R → AV × Heap) (no : X → AV × Heap) : Ctr where
 fresh := fresh
 spec args hc := match hc with
  | [] => .ex (fun x => eqL args (inp x) ∧ pre x) fun x => .ite (yes x) (.all (post x) fun r => .leaf (out x r)) (.leaf (no x))
  | _ => .fail
theorem U7 {X R : Type} {fresh : Bool} {inp : X → List AV} {pre : X → Prop} {yes : X → Bool} {post : X → R → Prop} {out : X → R → AV × Heap} {no : X → AV × Heap} {g : Nat} {c : Code} (hf : P.funcs[g]? = some fn) (hb : fn.body = some c) (hn : (fn.name == "runtime.NumGoroutine") = false)
  (H : ∀ x, pre x → ∀ (O : Nat → Prop) (w0 : World) (Q : AV × Heap → Prop), (yes x = true → ∀ r, post x r → Q (out x r)) → (yes x = false → Q (no x)) →
   zc P fn O 0 w0 [] (fun _ _ _ => False) (RetR (ctrD fresh inp pre yes post out no) 0 Q) [.code c] (entry fn (inp x))) : zd P g (ctrD fresh inp pre yes post out no) := by
 intro args hc Q hq _
 simp only [ctrD] at hq
 split at hq
 ·obtain ⟨x, ⟨h1, h4⟩, h5, h6⟩ := hq
  refine qh.le h1 (fn_k hf hb hn (fun _ => rfl) fun O w0 σ0 hl => ?_)
  have : σ0 = [] := List.length_eq_zero_iff.1 (by simpa using hl)
  subst this
  exact H x h4 O w0 Q (fun hy r hr => (h5 hy).2 r hr) h6
 ·exact hq.elim
theorem zd.frozen {X R : Type} {inp : X → List AV} {pre : X → Prop} {post : X → R → Prop} {out : X → R → AV × Heap} {out' : X → R → AV} {g : Nat} (h : zd P g (ctrP true inp pre post out))
  (hn : ∀ x r, pre x → post x r → new2 (out x r).2 [] (out x r).1) (he : ∀ x r, pre x → post x r → LeA (exp2 (out x r).2 [] (out x r).1) (out' x r)) : zd P g (ctrP true inp pre post fun x r => (out' x r, [])) := by
 intro args hc Q hq hfr
 have hc0 := hfr rfl
 subst hc0
 simp only [ctrP] at hq
 obtain ⟨x, ⟨h1, h2⟩, h3, h4⟩ := hq
 have k := h args [] (fun p => ∃ r, post x r ∧ p = out x r) (by simp only [ctrP]; exact ⟨x, ⟨h1, h2⟩, h3, fun r hr => ⟨r, hr, rfl⟩⟩) (fun _ => rfl)
 intro O w σ vals hg hh hr
 have hσ : σ = [] := List.length_eq_zero_iff.1 (by simpa using hh.len)
 subst hσ
 refine xD.mono ?_ (k O w [] vals hg hh hr)
 rintro v w' ⟨a, hs, σ', ⟨r, hr, e⟩, g1, g2, g3, g4, g5, g6⟩
 have ea : a = (out x r).1 := by rw [← e]
 have eh : hs = (out x r).2 := by rw [← e]
 have sub : ∀ b, Own O σ' b → (Own O σ' b ∨ ((ctrP true inp pre post out).fresh = true ∧ b < w.heap.size)) := fun b hb => .inl hb
 have hnew : ∀ b, Mine σ' b → w.heap.size ≤ b := fun b hb => by
  rcases g6.grow b hb with hx | hx
  ·obtain ⟨_, he, _⟩ := hx; simp at he
  ·exact hx
 have XX : Exp O w' σ' hs [] [] (fun b => Own O [] b ∨ ((ctrP true inp pre post fun x r => (out' x r, ([] : Heap))).fresh = true ∧ b < w.heap.size)) :=
  ⟨g3, ⟨g2.len, g2.inj, g2.lt, fun i e b he hb => Zd sub (g2.blk i e b he hb)⟩, rfl, by simp, fun j => by simp, fun b hb => by
   rcases hb with hb | ⟨_, hb⟩
   ·exact .inl hb
   ·exact .inr fun hm => by have := hnew b hm; omega⟩
 refine ⟨out' x r, [], [], h4 r hr, he x r h2 hr _ _ _ _ ?_, ⟨rfl, fun i j e f a b he => by simp at he, fun i e a he => by simp at he, fun i e b he => by simp at he⟩, ⟨g3.old, fun i e ad he => by simp at he, g3.stat.own fun b hb => by
  rcases hb with hb | ⟨e, he, _⟩
  ·exact .inl hb
  ·simp at he⟩, Nat.le_refl _, fun i e he => by simp at he, ⟨g6.os, g6.tape, g6.output, g6.size, fun b hb hno => g6.keep b hb hno, fun b hb => by obtain ⟨_, he, _⟩ := hb; simp at he⟩⟩
 rw [← ea, ← eh]
 exact Zw XX (.inr (by rw [ea, eh]; exact hn x r h2 hr)) (jK sub g1)
theorem zc.weak {M : Option Nat} {O : Nat → Prop} {pin : Nat} {w0 : World} {σ0 : List SE} {Hs : Nat → KV → Heap → Prop} {R : List AV → Heap → Prop} {k : List Item} {kv : KV} {h : Heap} {S : KV} {H : Heap} (hle : LeK pin fn.ntmps kv h S H)
  (hs : qA M P fn O pin w0 σ0 Hs R k (mk fn.ntmps S H)) : qA M P fn O pin w0 σ0 Hs R k (mk fn.ntmps kv h) := Safe.le hle.le hs
end Go.Sx
end

/- The store: logs replayed. -/
section
set_option maxRecDepth 100000
open Go Go.Sx Go.Proofs Go.Nov
namespace Go.Proofs.Try
attribute [local simp] eqKV eqA eqA0 eqH eqB eqL eqL0
noncomputable def K29 : List Go.Sx.Item := [.code (Try.f29.body.getD .skip)]
def repC : Ctr := ctrD false (fun l : List Ev => [evS l]) (fun l => l.length < 2 ^ 40 ∧ ∀ e ∈ l, zB e) (fun l => (SS.play ⟨[], []⟩ l).isSome) (fun l (s : SS) => SS.play ⟨[], []⟩ l = some s) (fun _ s => (.tup [.ptr 0 0, .bool true], HSt s)) (fun _ => (.tup [.nilp, .bool false], []))
def SRe (l : List Ev) (i : Nat) : KV := [(4, .ptr 1 0), (10, evS l), (11, .int .i64 l.length), (12, .int .i64 i)]
def HRe (s : SS) : Heap := [.map true [.inl .u8, .inr false, .inr false, .inl .i64] (zq s.lat) (zy s.lat), .box [.osl 2 9 0 s.evs.length, .omap 0, .osl 3 9 0 s.lat.length], .arr s.evs.length 9 (evG s.evs), .arr s.lat.length 9 (evG s.lat)]
noncomputable def GRe : Nat → Option Ctr := fun f => if f = 30 then some (addC) else none
theorem Yj : ∀ g c, GRe g = some c → zd Try.prog g c := okIf KA (zu)
theorem Vt : zd Try.prog 29 repC := by
 refine U7 (fn := Try.f29) (c := Try.f29.body.getD .skip) rfl rfl rfl fun l hp O w0 Q hq hq2 => ?_
 obtain ⟨h1, h2⟩ := hp
 refine zc.run hmix Yj [4, 10, 11, 12] 400 (T := .leaf (.loop (Prod.fst (lps K29 0)) (Prod.snd (lps K29 0)) [(4, .ptr 1 0), (10, .sl l.length 9 (evG l)), (11, .int .i64 l.length), (12, .int .i64 0)] [Blk.map true [Sum.inl .u8, Sum.inr false, Sum.inr false, Sum.inl .i64] JO XO, .box [.nils, .omap 0, .nils]])) (by kernel_rfl) ?_
 refine zc.KB 1 0 9 (evG []) rfl rfl (by kernel_rfl) ?_
 refine zc.KB 1 2 9 (evG []) rfl rfl (by kernel_rfl) ?_
 refine zc.loop (ι := {p : Nat × SS // p.1 ≤ l.length ∧ p.2.ok ∧ p.2.evs.length = p.1 ∧ p.2.evs.length ≤ 1000 ∧ p.2.play (l.drop p.1) = SS.play ⟨[], []⟩ l}) (fun p => SRe l p.1.1) (fun p => HRe p.1.2) (fun p => l.length - p.1.1) ⟨(0, ⟨[], []⟩), Nat.zero_le _, Ve, rfl, by simp, rfl⟩ 0 ?_ ?_ (by kernel_rfl)
 ·exact ⟨by simp [SRe, evS, za], by simp [HRe, za, JO, zq], by kernel_rfl, Nat.zero_le _⟩
 ·rintro ⟨⟨i, s⟩, hil, hso, hsl, hsm, hpl⟩
  simp only at hil hso hsl hsm hpl
  refine zc.run hmix Yj [4, 10, 11, 12] 400 (T := .ite (decide ((↑i : Int) < l.length)) (.side ((0 : Int) ≤ i ∧ (↑i : Int) < l.length) (.ex (fun (x : SS × Ev) => eqL [AV.ptr 0 0, AV.agg [AV.int .u8 (Ev.kind (List.getD l (Int.toNat (↑i : Int)) Ev.nil)), AV.int .i64 (Ev.id (List.getD l (Int.toNat (↑i : Int)) Ev.nil)), AV.int .i64 (Ev.entry (List.getD l (Int.toNat (↑i : Int)) Ev.nil)), AV.int .i64 (Ev.target (List.getD l (Int.toNat (↑i : Int)) Ev.nil)), AV.int .i64 (Ev.date (List.getD l (Int.toNat (↑i : Int)) Ev.nil)), AV.str (Ev.zb (List.getD l (Int.toNat (↑i : Int)) Ev.nil)), AV.str (Ev.name (List.getD l (Int.toNat (↑i : Int)) Ev.nil)), AV.str (Ev.value (List.getD l (Int.toNat (↑i : Int)) Ev.nil)), AV.bool (Ev.first (List.getD l (Int.toNat (↑i : Int)) Ev.nil))]] [AV.ptr 0 0, AV.agg [AV.int .u8 x.2.kind, AV.int .i64 x.2.id, AV.int .i64 x.2.entry, AV.int .i64 x.2.target, AV.int .i64 x.2.date, AV.str x.2.zb, AV.str x.2.name, AV.str x.2.value, AV.bool x.2.first]] ∧ eqH [.box [AV.osl 1 9 0 (List.length (SS.evs s)), AV.omap 2, AV.osl 3 9 0 (List.length (SS.lat s))], .arr (List.length (SS.evs s)) 9 (evG (SS.evs s)), Blk.map true [Sum.inl .u8, Sum.inr false, Sum.inr false, Sum.inl .i64] (zq (SS.lat s)) (zy (SS.lat s)), .arr (List.length (SS.lat s)) 9 (evG (SS.lat s))] [.box [AV.osl 1 9 0 (List.length (SS.evs x.1)), AV.omap 2, AV.osl 3 9 0 (List.length (SS.lat x.1))], .arr (List.length (SS.evs x.1)) 9 (evG (SS.evs x.1)), Blk.map true [Sum.inl .u8, Sum.inr false, Sum.inr false, Sum.inl .i64] (zq (SS.lat x.1)) (zy (SS.lat x.1)), .arr (List.length (SS.lat x.1)) 9 (evG (SS.lat x.1))] ∧ 4 = 4 ∧ SS.ok x.1 ∧ List.length (SS.evs x.1) ≤ 1000 ∧ zB x.2) fun n => .all (fun (r : Int) => r = SS.errA n.1 n.2) fun n_1 => .ite (!decide (n_1 = 0)) (.leaf (.ret [.nilp, .bool false] [Blk.map true [Sum.inl .u8, Sum.inr false, Sum.inr false, Sum.inl .i64] (zq (SS.lat (SS.add n.1 n.2))) (zy (SS.lat (SS.add n.1 n.2))), .box [.osl 2 9 0 (List.length (SS.evs (SS.add n.1 n.2))), .omap 0, .osl 3 9 0 (List.length (SS.lat (SS.add n.1 n.2)))], .arr (List.length (SS.evs (SS.add n.1 n.2))) 9 (evG (SS.evs (SS.add n.1 n.2))), .arr (List.length (SS.lat (SS.add n.1 n.2))) 9 (evG (SS.lat (SS.add n.1 n.2))), .box [.int .u8 (Ev.kind (List.getD l (Int.toNat (↑i : Int)) Ev.nil)), .int .i64 (Ev.id (List.getD l (Int.toNat (↑i : Int)) Ev.nil)), .int .i64 (Ev.entry (List.getD l (Int.toNat (↑i : Int)) Ev.nil)), .int .i64 (Ev.target (List.getD l (Int.toNat (↑i : Int)) Ev.nil)), .int .i64 (Ev.date (List.getD l (Int.toNat (↑i : Int)) Ev.nil)), .str (Ev.zb (List.getD l (Int.toNat (↑i : Int)) Ev.nil)), .str (Ev.name (List.getD l (Int.toNat (↑i : Int)) Ev.nil)), .str (Ev.value (List.getD l (Int.toNat (↑i : Int)) Ev.nil)), .bool (Ev.first (List.getD l (Int.toNat (↑i : Int)) Ev.nil))]])) (.side (inR .i64 ((↑i : Int) + (1 : Int))) (.leaf (.back 0 [(4, .ptr 1 0), (10, .sl l.length 9 (evG l)), (11, .int .i64 l.length), (12, .int .i64 ((↑i : Int) + (1 : Int)))] [Blk.map true [Sum.inl .u8, Sum.inr false, Sum.inr false, Sum.inl .i64] (zq (SS.lat (SS.add n.1 n.2))) (zy (SS.lat (SS.add n.1 n.2))), .box [.osl 2 9 0 (List.length (SS.evs (SS.add n.1 n.2))), .omap 0, .osl 3 9 0 (List.length (SS.lat (SS.add n.1 n.2)))], .arr (List.length (SS.evs (SS.add n.1 n.2))) 9 (evG (SS.evs (SS.add n.1 n.2))), .arr (List.length (SS.lat (SS.add n.1 n.2))) 9 (evG (SS.lat (SS.add n.1 n.2))), .box [.int .u8 (Ev.kind (List.getD l (Int.toNat (↑i : Int)) Ev.nil)), .int .i64 (Ev.id (List.getD l (Int.toNat (↑i : Int)) Ev.nil)), .int .i64 (Ev.entry (List.getD l (Int.toNat (↑i : Int)) Ev.nil)), .int .i64 (Ev.target (List.getD l (Int.toNat (↑i : Int)) Ev.nil)), .int .i64 (Ev.date (List.getD l (Int.toNat (↑i : Int)) Ev.nil)), .str (Ev.zb (List.getD l (Int.toNat (↑i : Int)) Ev.nil)), .str (Ev.name (List.getD l (Int.toNat (↑i : Int)) Ev.nil)), .str (Ev.value (List.getD l (Int.toNat (↑i : Int)) Ev.nil)), .bool (Ev.first (List.getD l (Int.toNat (↑i : Int)) Ev.nil))]]))))) (.leaf (.ret [.ptr 1 0, .bool true] [Blk.map true [Sum.inl .u8, Sum.inr false, Sum.inr false, Sum.inl .i64] (zq (SS.lat s)) (zy (SS.lat s)), .box [.osl 2 9 0 (List.length (SS.evs s)), .omap 0, .osl 3 9 0 (List.length (SS.lat s))], .arr (List.length (SS.evs s)) 9 (evG (SS.evs s)), .arr (List.length (SS.lat s)) 9 (evG (SS.lat s))]))) (by kernel_rfl) ?_
  simp only [Tree.holds, ze]
  simp only [Int.toNat_natCast, inR, lo, hi]
  refine ⟨fun h => ⟨by have := of_decide_eq_true h; omega, fun _ => ?_⟩, fun h => ?_⟩
  ·have hlt : i < l.length := by have := of_decide_eq_true h; omega
   rw [KT hlt] at hpl
   have hsm1 := kP h2 i
   generalize l.getD i Ev.nil = e at hpl hsm1 ⊢
   refine ⟨(s, e), ⟨by simp [Ev.av], by simp [za], trivial, hso, hsm, hsm1⟩, ⟨_, rfl⟩, ?_⟩
   rintro _ rfl
   refine ⟨fun g => ?_, fun g => ⟨by omega, fun _ => ?_⟩⟩
   ·have g : s.errA e ≠ 0 := by simpa using g
    rw [if_neg g] at hpl
    rw [← hpl] at hq2
    exact RetR.scal (hq2 rfl) rfl (by simp [resV])
   ·have g : s.errA e = 0 := by simpa using g
    rw [if_pos g] at hpl
    obtain ⟨a1, a2⟩ := uo g
    rw [if_pos trivial]
    refine ⟨⟨(i + 1, s.add e), hlt, WU hso e, by rw [a1]; simp; omega, by rw [a1]; simp; omega, hpl⟩, by show l.length - (i + 1) < l.length - i; omega, ?_⟩
    exact ⟨by simp [SRe, evS, za], by simp [HRe, za], by kernel_rfl, Nat.zero_le _⟩
  ·have hge : i = l.length := by have := of_decide_eq_false h; omega
   subst hge
   rw [List.drop_length] at hpl
   rw [← hpl] at hq
   refine RetR.outs [1, 2, 0, 3] rfl rfl (hq rfl _ rfl) (fun h => by cases h) (by simp [resV, exp2, exp1, exp0, ren0, zp, eqA2, eqL1]) ?_ rfl
   simp [expH, expB, exp1, exp0, ren0, zp, HSt, za]
end Go.Proofs.Try
end

/- The reference's log: what it accepts. -/
section
namespace Go.Nov
open Go.Sx
def Ev.fact (e : Ev) : Bool := decide (e.kind = 1) || decide (e.kind = 2)
def wR (l : List Ev) (id : Int) : Bool := l.any fun x => decide (x.kind = 5) && decide (x.target = id)
def Yl (a b : Ev) : Bool := decide (a.kind = b.kind) && decide (a.zb = b.zb) && decide (a.name = b.name) && decide (a.date = b.date)
def WQ (l : List Ev) (e : Ev) (n : Nat) : Bool := (List.range n).any fun i => Yl (l.getD i Ev.nil) e && !wR l (i + 1)
def accR (l : List Ev) (e : Ev) : Int :=
 if e.valid = false ∨ e.id ≠ l.length + 1 then 2
 else if 0 < l.length ∧ e.entry < (l.getD (l.length - 1) Ev.nil).entry then 21
 else if 1000 ≤ l.length then 22
 else if e.fact = false then
  if (l.length : Int) < e.target ∨ (l.getD (e.target.toNat - 1) Ev.nil).fact = false ∨ wR l e.target = true then 6
  else if e.kind = 3 ∧ (l.getD (e.target.toNat - 1) Ev.nil).kind = 2 ∨ e.kind = 4 ∧ (l.getD (e.target.toNat - 1) Ev.nil).kind = 1 then 32 else 0
 else if WQ l e l.length then 24 else 0
def VQ (l : List Ev) : Bool := (List.range l.length).all fun i => decide (accR (l.take i) (l.getD i Ev.nil) = 0)
def appS (l : List Ev) (e : Ev) : List Ev × Int := match SS.play ⟨[], []⟩ l with
 | none => ([], 8)
 | some s => if s.errA e ≠ 0 then ([], s.errA e) else (s.evs ++ [e], 0)
end Go.Nov
namespace Go.Nov
theorem VF {e : Ev} (hv : e.valid = true) (hf : e.fact = false) : 1 ≤ e.target := by
 have hf : ¬ e.kind = 1 ∧ ¬ e.kind = 2 := by simpa [Ev.fact] using hf
 unfold Ev.valid at hv
 rw [if_neg hf.1, if_neg hf.2] at hv
 simp only [Bool.and_eq_true, inB, decide_eq_true_eq] at hv
 omega
end Go.Nov
namespace Go.Nov
end Go.Nov
end

/- The store: Check, Append. -/
section
set_option maxRecDepth 100000
open Go Go.Sx Go.Proofs Go.Nov
namespace Go.Proofs.Try
attribute [local simp] eqKV eqA eqA0 eqH eqB eqL eqL0
def evP (l : List Ev) : Prop := l.length < 2 ^ 40 ∧ ∀ e ∈ l, zB e
def J7 : Ctr := ctrP true (fun l : List Ev => [.agg [evS l]]) evP (fun l r => r = if (SS.play ⟨[], []⟩ l).isSome then 0 else 8) (fun _ (r : Int) => (.int .i64 r, []))
noncomputable def GCl : Nat → Option Ctr := fun f => if f = 29 then some (repC) else none
theorem zcq : ∀ g c, GCl g = some c → zd Try.prog g c := okIf Vt (zu)
theorem XA : zd Try.prog 15 J7 := by
 refine zm (fn := Try.f15) (c := Try.f15.body.getD .skip) rfl rfl rfl fun l hp O w0 Q hq => ?_
 replace hq := hq _ rfl
 refine zc.run hmix zcq [] 400 (T := .ex (fun (x : List Ev) => eqL [AV.sl l.length 9 (evG l)] [AV.sl x.length 9 (evG x)] ∧ x.length < 1099511627776 ∧ ∀ (e : Ev), e ∈ x → zB e) fun n => .ite (Option.isSome (SS.play { evs := [], lat := [] } n)) (.all (fun (s : SS) => SS.play { evs := [], lat := [] } n = some s) fun n => .ite false (.leaf (.ret [.int .i64 8] [.box [.sl l.length 9 (evG l)], .box [.osl 2 9 0 (List.length (SS.evs n)), .omap 3, .osl 4 9 0 (List.length (SS.lat n))], .arr (List.length (SS.evs n)) 9 (evG (SS.evs n)), Blk.map true [Sum.inl .u8, Sum.inr false, Sum.inr false, Sum.inl .i64] (zq (SS.lat n)) (zy (SS.lat n)), .arr (List.length (SS.lat n)) 9 (evG (SS.lat n))])) (.leaf (.ret [.int .i64 0] [.box [.sl l.length 9 (evG l)], .box [.osl 2 9 0 (List.length (SS.evs n)), .omap 3, .osl 4 9 0 (List.length (SS.lat n))], .arr (List.length (SS.evs n)) 9 (evG (SS.evs n)), Blk.map true [Sum.inl .u8, Sum.inr false, Sum.inr false, Sum.inl .i64] (zq (SS.lat n)) (zy (SS.lat n)), .arr (List.length (SS.lat n)) 9 (evG (SS.lat n))]))) (.ite true (.leaf (.ret [.int .i64 8] [.box [.sl l.length 9 (evG l)]])) (.leaf (.ret [.int .i64 0] [.box [.sl l.length 9 (evG l)]])))) (by kernel_rfl) ?_
 simp only [Tree.holds, ze]
 have fin : ∀ (z : Int) (h : Heap), z = (if (SS.play ⟨[], []⟩ l).isSome then 0 else 8) → RetR J7 0 Q [.int .i64 z] h := by
  rintro z h rfl
  exact RetR.scal hq rfl rfl
 refine ⟨l, ⟨by simp [za], hp⟩, fun h => ?_, fun h => ?_⟩
 ·obtain ⟨t, ht⟩ := Option.isSome_iff_exists.1 h
  refine ⟨⟨t, ht⟩, fun s hs => ⟨fun g => (by cases g), fun _ => fin _ _ (by rw [if_pos h])⟩⟩
 ·exact ⟨fun _ => fin _ _ (by rw [if_neg (by rw [h]; decide)]), fun g => (by cases g)⟩
theorem Ys {ctr : Ctr} {Q : AV × Heap → Prop} (e : Int) (h : Heap) (hq : Q (.tup [.agg [.osl 0 9 0 0], .int .i64 e], [.arr 0 9 (evG [])])) : RetR ctr 0 (upQ Q) [.agg [.nils], .int .i64 e] h := by
 refine RetR.out0 (r := .tup [.agg [.nils], .int .i64 e]) (.inr ⟨_, [(9, evG [])], ?_, hq⟩) (fun _ => by simp [resV, new2, new1, new0, zU]) (by simp [resV, exp2, exp1, exp0, ren0, eqA2, eqL1])
 simp [upA2, upL1, upA1, upL0, upA0]
theorem zao {n : Nat} {g : Nat → Nat → AV} {l : List Ev} (h : eqG n 9 g (evG l)) : newB (.arr n 9 g) := fun j o hj ho => by rw [h j o hj ho]; exact VU l j o ho
def zbn : Ctr := ctrP true (fun p : List Ev × Ev => [.agg [evS p.1], p.2.av]) (fun p => evP p.1 ∧ zB p.2) (fun p r => r = appS p.1 p.2) (fun _ (r : List Ev × Int) => (.tup [.agg [.osl 0 9 0 r.1.length], .int .i64 r.2], [.arr r.1.length 9 (evG r.1)]))
noncomputable def GAp : Nat → Option Ctr := fun f => if f = 29 then some (repC) else if f = 30 then some (addC) else none
theorem zcs : ∀ g c, GAp g = some c → zd Try.prog g c := okIf Vt (okIf KA (zu))
theorem UZ : zd Try.prog 12 zbn := by
 refine vW (fn := Try.f12) (c := Try.f12.body.getD .skip) rfl rfl rfl fun p hp O w0 Q hq => ?_
 obtain ⟨l, e⟩ := p
 replace hq := hq _ rfl
 refine zc.run hmix zcs [] 400 (T := .ex (fun (x : List Ev) => eqL [AV.sl l.length 9 (evG l)] [AV.sl x.length 9 (evG x)] ∧ x.length < 1099511627776 ∧ ∀ (e : Ev), e ∈ x → zB e) fun n => .ite (Option.isSome (SS.play { evs := [], lat := [] } n)) (.all (fun (s : SS) => SS.play { evs := [], lat := [] } n = some s) fun n => .ite false (.leaf (.ret [.agg [.nils], .int .i64 8] [.box [.sl l.length 9 (evG l)], .box [.int .u8 e.kind, .int .i64 e.id, .int .i64 e.entry, .int .i64 e.target, .int .i64 e.date, .str e.zb, .str e.name, .str e.value, .bool e.first], .box [.nils], .box [.osl 4 9 0 (List.length (SS.evs n)), .omap 5, .osl 6 9 0 (List.length (SS.lat n))], .arr (List.length (SS.evs n)) 9 (evG (SS.evs n)), Blk.map true [Sum.inl .u8, Sum.inr false, Sum.inr false, Sum.inl .i64] (zq (SS.lat n)) (zy (SS.lat n)), .arr (List.length (SS.lat n)) 9 (evG (SS.lat n))])) (.ex (fun (x : SS × Ev) => eqL [AV.ptr 0 0, AV.agg [AV.int .u8 e.kind, AV.int .i64 e.id, AV.int .i64 e.entry, AV.int .i64 e.target, AV.int .i64 e.date, AV.str e.zb, AV.str e.name, AV.str e.value, AV.bool e.first]] [AV.ptr 0 0, AV.agg [AV.int .u8 x.2.kind, AV.int .i64 x.2.id, AV.int .i64 x.2.entry, AV.int .i64 x.2.target, AV.int .i64 x.2.date, AV.str x.2.zb, AV.str x.2.name, AV.str x.2.value, AV.bool x.2.first]] ∧ eqH [.box [AV.osl 1 9 0 (List.length (SS.evs n)), AV.omap 2, AV.osl 3 9 0 (List.length (SS.lat n))], .arr (List.length (SS.evs n)) 9 (evG (SS.evs n)), Blk.map true [Sum.inl .u8, Sum.inr false, Sum.inr false, Sum.inl .i64] (zq (SS.lat n)) (zy (SS.lat n)), .arr (List.length (SS.lat n)) 9 (evG (SS.lat n))] [.box [AV.osl 1 9 0 (List.length (SS.evs x.1)), AV.omap 2, AV.osl 3 9 0 (List.length (SS.lat x.1))], .arr (List.length (SS.evs x.1)) 9 (evG (SS.evs x.1)), Blk.map true [Sum.inl .u8, Sum.inr false, Sum.inr false, Sum.inl .i64] (zq (SS.lat x.1)) (zy (SS.lat x.1)), .arr (List.length (SS.lat x.1)) 9 (evG (SS.lat x.1))] ∧ 4 = 4 ∧ SS.ok x.1 ∧ List.length (SS.evs x.1) ≤ 1000 ∧ zB x.2) fun n => .all (fun (r : Int) => r = SS.errA n.1 n.2) fun n_1 => .ite (!decide (n_1 = 0)) (.leaf (.ret [.agg [.nils], .int .i64 n_1] [.box [.sl l.length 9 (evG l)], .box [.int .u8 e.kind, .int .i64 e.id, .int .i64 e.entry, .int .i64 e.target, .int .i64 e.date, .str e.zb, .str e.name, .str e.value, .bool e.first], .box [.nils], .box [.osl 4 9 0 (List.length (SS.evs (SS.add n.1 n.2))), .omap 5, .osl 6 9 0 (List.length (SS.lat (SS.add n.1 n.2)))], .arr (List.length (SS.evs (SS.add n.1 n.2))) 9 (evG (SS.evs (SS.add n.1 n.2))), Blk.map true [Sum.inl .u8, Sum.inr false, Sum.inr false, Sum.inl .i64] (zq (SS.lat (SS.add n.1 n.2))) (zy (SS.lat (SS.add n.1 n.2))), .arr (List.length (SS.lat (SS.add n.1 n.2))) 9 (evG (SS.lat (SS.add n.1 n.2)))])) (.leaf (.ret [.agg [.osl 4 9 0 (List.length (SS.evs (SS.add n.1 n.2)))], .int .i64 0] [.box [.sl l.length 9 (evG l)], .box [.int .u8 e.kind, .int .i64 e.id, .int .i64 e.entry, .int .i64 e.target, .int .i64 e.date, .str e.zb, .str e.name, .str e.value, .bool e.first], .box [.osl 4 9 0 (List.length (SS.evs (SS.add n.1 n.2)))], .box [.osl 4 9 0 (List.length (SS.evs (SS.add n.1 n.2))), .omap 5, .osl 6 9 0 (List.length (SS.lat (SS.add n.1 n.2)))], .arr (List.length (SS.evs (SS.add n.1 n.2))) 9 (evG (SS.evs (SS.add n.1 n.2))), Blk.map true [Sum.inl .u8, Sum.inr false, Sum.inr false, Sum.inl .i64] (zq (SS.lat (SS.add n.1 n.2))) (zy (SS.lat (SS.add n.1 n.2))), .arr (List.length (SS.lat (SS.add n.1 n.2))) 9 (evG (SS.lat (SS.add n.1 n.2)))])))) (.ite true (.leaf (.ret [.agg [.nils], .int .i64 8] [.box [.sl l.length 9 (evG l)], .box [.int .u8 e.kind, .int .i64 e.id, .int .i64 e.entry, .int .i64 e.target, .int .i64 e.date, .str e.zb, .str e.name, .str e.value, .bool e.first], .box [.nils]])) (.ex (fun (x : SS × Ev) => eqL [AV.nilp, AV.agg [AV.int .u8 e.kind, AV.int .i64 e.id, AV.int .i64 e.entry, AV.int .i64 e.target, AV.int .i64 e.date, AV.str e.zb, AV.str e.name, AV.str e.value, AV.bool e.first]] [AV.ptr 0 0, AV.agg [AV.int .u8 x.2.kind, AV.int .i64 x.2.id, AV.int .i64 x.2.entry, AV.int .i64 x.2.target, AV.int .i64 x.2.date, AV.str x.2.zb, AV.str x.2.name, AV.str x.2.value, AV.bool x.2.first]] ∧ eqH [] [.box [AV.osl 1 9 0 (List.length (SS.evs x.1)), AV.omap 2, AV.osl 3 9 0 (List.length (SS.lat x.1))], .arr (List.length (SS.evs x.1)) 9 (evG (SS.evs x.1)), Blk.map true [Sum.inl .u8, Sum.inr false, Sum.inr false, Sum.inl .i64] (zq (SS.lat x.1)) (zy (SS.lat x.1)), .arr (List.length (SS.lat x.1)) 9 (evG (SS.lat x.1))] ∧ 0 = 4 ∧ SS.ok x.1 ∧ List.length (SS.evs x.1) ≤ 1000 ∧ zB x.2) fun n => .all (fun (r : Int) => r = SS.errA n.1 n.2) fun n_1 => .ite (!decide (n_1 = 0)) (.leaf (.ret [.agg [.nils], .int .i64 n_1] [.box [.sl l.length 9 (evG l)], .box [.int .u8 e.kind, .int .i64 e.id, .int .i64 e.entry, .int .i64 e.target, .int .i64 e.date, .str e.zb, .str e.name, .str e.value, .bool e.first], .box [.nils], .box [.osl 4 9 0 (List.length (SS.evs (SS.add n.1 n.2))), .omap 5, .osl 6 9 0 (List.length (SS.lat (SS.add n.1 n.2)))], .arr (List.length (SS.evs (SS.add n.1 n.2))) 9 (evG (SS.evs (SS.add n.1 n.2))), Blk.map true [Sum.inl .u8, Sum.inr false, Sum.inr false, Sum.inl .i64] (zq (SS.lat (SS.add n.1 n.2))) (zy (SS.lat (SS.add n.1 n.2))), .arr (List.length (SS.lat (SS.add n.1 n.2))) 9 (evG (SS.lat (SS.add n.1 n.2)))])) .fail))) (by kernel_rfl) ?_
 simp only [Tree.holds, ze]
 obtain ⟨hl, he⟩ := hp
 have bad : ∀ (z : Int) (h : Heap), appS l e = ([], z) → RetR zbn 0 (upQ Q) [.agg [.nils], .int .i64 z] h := fun z h hr => by
  simp only [hr] at hq
  exact Ys z h hq
 refine ⟨l, ⟨by simp [za], hl⟩, fun h => ?_, fun h => ?_⟩
 ·obtain ⟨t, ht⟩ := Option.isSome_iff_exists.1 h
  refine ⟨⟨t, ht⟩, fun s hs => ⟨fun g => (by cases g), fun _ => ?_⟩⟩
  obtain ⟨a1, a2, a3⟩ := Ke hs
  refine ⟨(s, e), ⟨by simp [Ev.av], by simp [za], trivial, a1, a3, he⟩, ⟨_, rfl⟩, ?_⟩
  rintro _ rfl
  dsimp only
  refine ⟨fun g => ?_, fun g => ?_⟩
  ·have g : s.errA e ≠ 0 := by simpa using g
   exact bad _ _ (by unfold appS; rw [hs]; simp only; rw [if_pos g])
  ·have g : s.errA e = 0 := by simpa using g
   have hr : appS l e = (s.evs ++ [e], 0) := by unfold appS; rw [hs]; simp only; rw [if_neg (by simpa using g)]
   simp only [hr] at hq
   obtain ⟨b1, b2⟩ := uo g
   rw [b1]
   refine RetR.outs [4] rfl rfl (.inl hq) (fun _ => ⟨?_, ?_⟩) ?_ ?_ rfl
   ·simp [resV, new2, new1, new0, zp, zU]
   ·simp only [List.mem_cons, List.not_mem_nil, or_false, forall_eq]
    exact zao (za _ _ _)
   ·simp [resV, exp2, exp1, exp0, ren0, zp, eqA2, eqL1]
   ·simp [expH, expB, za]
 ·refine ⟨fun _ => bad _ _ ?_, fun g => (by cases g)⟩
  unfold appS
  cases hs : SS.play ⟨[], []⟩ l with
  | none => rfl
  | some s => rw [hs] at h; cases h
end Go.Proofs.Try
end

/- The order of what is known. -/
section
set_option maxRecDepth 100000
open Go Go.Sx Go.Proofs Go.Nov
namespace Go.Proofs.Try
attribute [local simp] eqKV eqA eqA0 eqH eqB eqL eqL0
noncomputable def K68 : List Go.Sx.Item := [.code (Try.f68.body.getD .skip)]
def nanS : Ctr := ctrP true (fun s : List UInt8 => [.str s]) (fun _ => True) (fun s r => r = false) (fun _ (r : Bool) => (.bool r, []))
def nanI : Ctr := ctrP true (fun x : Int => [.int .i64 x]) (fun _ => True) (fun s r => r = false) (fun _ (r : Bool) => (.bool r, []))
theorem UK : zd Try.prog 87 nanS := by
 refine zm (fn := Try.f87) (c := Try.f87.body.getD .skip) rfl rfl rfl fun s hs O w0 Q hq => ?_
 replace hq := hq _ rfl
 refine zc.run hmix z7 [] 400 (T := .leaf (.ret [.bool !decide (s = s)] [])) (by kernel_rfl) ?_
 simp only [Tree.holds, ze]
 exact RetR.scal hq rfl (by simp [resV])
theorem zah : zd Try.prog 88 nanI := by
 refine zm (fn := Try.f88) (c := Try.f88.body.getD .skip) rfl rfl rfl fun s hs O w0 Q hq => ?_
 replace hq := hq _ rfl
 refine zc.run hmix z7 [] 400 (T := .leaf (.ret [.bool !decide (s = s)] [])) (by kernel_rfl) ?_
 simp only [Tree.holds, ze]
 exact RetR.scal hq rfl (by simp [resV])
def zba : Ctr := ctrP true (fun p : List UInt8 × List UInt8 => [.str p.1, .str p.2]) (fun _ => True) (fun p r => r = cmpS p.1 p.2) (fun _ (r : Int) => (.int .i64 r, []))
def zbo : Ctr := ctrP true (fun p : Int × Int => [.int .i64 p.1, .int .i64 p.2]) (fun _ => True) (fun p r => r = cmpI p.1 p.2) (fun _ (r : Int) => (.int .i64 r, []))
noncomputable def GN2 : Nat → Option Ctr := fun f => if f = 87 then some (nanS) else if f = 88 then some (nanI) else none
theorem XL : ∀ g c, GN2 g = some c → zd Try.prog g c := okIf UK (okIf zah (zu))
theorem UO : zd Try.prog 69 zba := by
 refine zm (fn := Try.f69) (c := Try.f69.body.getD .skip) rfl rfl rfl fun p hs O w0 Q hq => ?_
 obtain ⟨s, t⟩ := p
 replace hq := hq _ rfl
 simp only at hq
 refine zc.run hmix XL [] 400 (T := .ex (fun (x : List UInt8) => eqL [AV.str s] [AV.str x] ∧ True) fun n => .all (fun (r : Bool) => r = false) fun n => .ex (fun (x : List UInt8) => eqL [AV.str t] [AV.str x] ∧ True) fun n_1 => .all (fun (r : Bool) => r = false) fun n_2 => .ite n (.ite n_2 (.leaf (.ret [.int .i64 0] [])) (.leaf (.ret [.int .i64 (-1 : Int)] []))) (.ite n_2 (.leaf (.ret [.int .i64 1] [])) (.ite (Op.bytesLess s t) (.leaf (.ret [.int .i64 (-1 : Int)] [])) (.ite (!(Op.bytesLess s t || decide (s = t))) (.leaf (.ret [.int .i64 1] [])) (.leaf (.ret [.int .i64 0] [])))))) (by kernel_rfl) ?_
 simp only [Tree.holds, ze]
 refine ⟨s, ⟨by simp, trivial⟩, ⟨_, rfl⟩, ?_⟩
 rintro _ rfl
 refine ⟨t, ⟨by simp, trivial⟩, ⟨_, rfl⟩, ?_⟩
 rintro _ rfl
 refine ⟨fun h => (by cases h), fun _ => ⟨fun h => (by cases h), fun _ => ⟨fun h => ?_, fun h => ⟨fun h2 => ?_, fun h2 => ?_⟩⟩⟩⟩
 ·have : cmpS s t = -1 := by simp [cmpS, h]
  rw [this] at hq; exact RetR.scal hq rfl (by simp [resV])
 ·have h2 : s ≠ t := by simpa [h] using h2
  have : cmpS s t = 1 := by simp [cmpS, h, h2]
  rw [this] at hq; exact RetR.scal hq rfl (by simp [resV])
 ·have h2 : s = t := by simpa [h] using h2
  subst h2
  have : cmpS s s = 0 := by simp [cmpS, h]
  rw [this] at hq; exact RetR.scal hq rfl (by simp [resV])
theorem UI : zd Try.prog 70 zbo := by
 refine zm (fn := Try.f70) (c := Try.f70.body.getD .skip) rfl rfl rfl fun p hs O w0 Q hq => ?_
 obtain ⟨s, t⟩ := p
 replace hq := hq _ rfl
 simp only at hq
 refine zc.run hmix XL [] 400 (T := .ex (fun (x : Int) => eqL [AV.int .i64 s] [AV.int .i64 x] ∧ True) fun n => .all (fun (r : Bool) => r = false) fun n => .ex (fun (x : Int) => eqL [AV.int .i64 t] [AV.int .i64 x] ∧ True) fun n_1 => .all (fun (r : Bool) => r = false) fun n_2 => .ite n (.ite n_2 (.leaf (.ret [.int .i64 0] [])) (.leaf (.ret [.int .i64 (-1 : Int)] []))) (.ite n_2 (.leaf (.ret [.int .i64 1] [])) (.ite (decide (s < t)) (.leaf (.ret [.int .i64 (-1 : Int)] [])) (.ite (decide (t < s)) (.leaf (.ret [.int .i64 1] [])) (.leaf (.ret [.int .i64 0] [])))))) (by kernel_rfl) ?_
 simp only [Tree.holds, ze]
 refine ⟨s, ⟨by simp, trivial⟩, ⟨_, rfl⟩, ?_⟩
 rintro _ rfl
 refine ⟨t, ⟨by simp, trivial⟩, ⟨_, rfl⟩, ?_⟩
 rintro _ rfl
 refine ⟨fun h => (by cases h), fun _ => ⟨fun h => (by cases h), fun _ => ⟨fun h => ?_, fun h => ⟨fun h2 => ?_, fun h2 => ?_⟩⟩⟩⟩
 ·have h := of_decide_eq_true h
  have : cmpI s t = -1 := by simp [cmpI, h]
  rw [this] at hq; exact RetR.scal hq rfl (by simp [resV])
 ·have h := of_decide_eq_false h
  have h2 := of_decide_eq_true h2
  have : cmpI s t = 1 := by simp [cmpI, h, h2]
  rw [this] at hq; exact RetR.scal hq rfl (by simp [resV])
 ·have h := of_decide_eq_false h
  have h2 := of_decide_eq_false h2
  have : cmpI s t = 0 := by simp [cmpI, h, h2]
  rw [this] at hq; exact RetR.scal hq rfl (by simp [resV])
def orC : Ctr := ctrP true (fun l : List Int => [.sl l.length 1 (fun j _ => .int .i64 (l.getD j 0))]) (fun l => l.length < 2 ^ 40) (fun l r => r = orI l) (fun _ (r : Int) => (.int .i64 r, []))
def SOr (l : List Int) (i : Nat) : KV := [(3, .int .i64 0), (6, .sl l.length 1 (fun j _ => .int .i64 (l.getD j 0))), (7, .int .i64 (l.length : Int)), (8, .int .i64 (i : Int))]
theorem zcx : zd Try.prog 68 orC := by
 refine zm (fn := Try.f68) (c := Try.f68.body.getD .skip) rfl rfl rfl fun l hl O w0 Q hq => ?_
 replace hq := hq _ rfl
 refine zc.run hmix z7 [3, 6, 7, 8] 400 (T := .leaf (.loop (Prod.fst (lps K68 0)) (Prod.snd (lps K68 0)) [(3, .int .i64 0), (6, .sl l.length 1 fun (j x : Nat) => .int .i64 (List.getD l j (0 : Int))), (7, .int .i64 l.length), (8, .int .i64 0)] [])) (by kernel_rfl) ?_
 simp only [Tree.holds, ze]
 refine zc.loop (ι := {i : Nat // i ≤ l.length ∧ orI (l.drop i) = orI l}) (fun i => SOr l i.1) (fun _ => []) (fun i => l.length - i.1) ⟨0, Nat.zero_le _, rfl⟩ 0 ?_ ?_ (by kernel_rfl)
 ·exact ⟨by simp [SOr, za], by simp, by kernel_rfl, Nat.zero_le _⟩
 ·rintro ⟨i, hil, hio⟩
  refine zc.run hmix z7 [3, 6, 7, 8] 400 (T := .ite (decide ((↑i : Int) < l.length)) (.side ((0 : Int) ≤ i ∧ (↑i : Int) < l.length) (.ite (!decide (List.getD l (Int.toNat (↑i : Int)) (0 : Int) = 0)) (.leaf (.ret [.int .i64 (List.getD l (Int.toNat (↑i : Int)) (0 : Int))] [])) (.side (inR .i64 ((↑i : Int) + (1 : Int))) (.leaf (.back 0 [(3, .int .i64 0), (6, .sl l.length 1 fun (j x : Nat) => .int .i64 (List.getD l j (0 : Int))), (7, .int .i64 l.length), (8, .int .i64 ((↑i : Int) + (1 : Int)))] []))))) (.leaf (.ret [.int .i64 0] []))) (by kernel_rfl) ?_
  simp only [Tree.holds, ze, inR, lo, hi, Int.toNat_natCast]
  refine ⟨fun hlt => ?_, fun hge => ?_⟩
  ·have hlt : i < l.length := by have := of_decide_eq_true hlt; omega
   have hd : l.drop i = l.getD i 0 :: l.drop (i + 1) := by
    rw [List.drop_eq_getElem_cons hlt]; simp [List.getD, hlt]
   rw [hd] at hio
   refine ⟨by omega, fun _ => ⟨fun h => ?_, fun h => ⟨by omega, fun _ => ?_⟩⟩⟩
   ·have h : l.getD i 0 ≠ 0 := by simpa using h
    have : orI l = l.getD i 0 := by rw [← hio]; simp only [orI]; rw [if_neg h]
    rw [this] at hq; exact RetR.scal hq rfl (by simp [resV])
   ·have h : l.getD i 0 = 0 := by simpa using h
    rw [if_pos trivial]
    refine ⟨⟨i + 1, hlt, ?_⟩, by show l.length - (i + 1) < l.length - i; omega, by simp [SOr, za], by simp, by kernel_rfl, Nat.zero_le _⟩
    rw [← hio]; simp only [orI]; rw [if_pos h]
  ·have hge : i = l.length := by have := of_decide_eq_false hge; omega
   subst hge
   rw [List.drop_length] at hio
   rw [← hio] at hq; exact RetR.scal hq rfl (by simp [resV, orI])
def xF : Ctr := ctrP true (fun p : Fx × Fx => [p.1.av, p.2.av]) (fun _ => True) (fun p r => r = cmpF p.1 p.2) (fun _ (r : Int) => (.int .i64 r, []))
def xX : Ctr := ctrP true (fun p : Ch × Ch => [p.1.av, p.2.av]) (fun _ => True) (fun p r => r = cmpC p.1 p.2) (fun _ (r : Int) => (.int .i64 r, []))
noncomputable def GN3 : Nat → Option Ctr := fun f => if f = 69 then some (zba) else if f = 70 then some (zbo) else if f = 68 then some (orC) else none
theorem YD : ∀ g c, GN3 g = some c → zd Try.prog g c := okIf UO (okIf UI (okIf zcx (zu)))
theorem XE (x y : Int) : eqG 2 1 (zg (zf 1 [.int .i64 x, .int .i64 y]) 0) (fun j _ => .int .i64 ([x, y].getD j 0)) := by
 intro j o hj ho
 have ho : o = 0 := by omega
 subst ho
 rcases j with _ | _ | j
 ·rfl
 ·rfl
 ·omega
theorem X5 (x y z : Int) : eqG 3 1 (zg (zf 1 [.int .i64 x, .int .i64 y, .int .i64 z]) 0) (fun j _ => .int .i64 ([x, y, z].getD j 0)) := by
 intro j o hj ho
 have ho : o = 0 := by omega
 subst ho
 rcases j with _ | _ | _ | j
 ·rfl
 ·rfl
 ·rfl
 ·omega
theorem kZ : zd Try.prog 45 xF := by
 refine zm (fn := Try.f45) (c := Try.f45.body.getD .skip) rfl rfl rfl fun p hs O w0 Q hq => ?_
 obtain ⟨⟨a, d, v⟩, ⟨b, e, u⟩⟩ := p
 replace hq := hq _ rfl
 simp only at hq
 refine zc.run hmix YD [] 400 (T := .ex (fun (x : List UInt8 × List UInt8) => eqL [AV.str a, AV.str b] [AV.str x.1, AV.str x.2] ∧ True) fun n => .all (fun (r : Int) => r = cmpS n.1 n.2) fun n => .ex (fun (x : Int × Int) => eqL [AV.int .i64 d, AV.int .i64 e] [AV.int .i64 x.1, AV.int .i64 x.2] ∧ True) fun n_1 => .all (fun (r : Int) => r = cmpI n_1.1 n_1.2) fun n_2 => .ex (fun (x : List Int) => eqL [AV.sl 2 1 (zg (zf 1 [AV.int .i64 n, AV.int .i64 n_2]) 0)] [AV.sl x.length 1 fun (j x_1 : Nat) => AV.int .i64 (List.getD x j (0 : Int))] ∧ x.length < 1099511627776) fun n_3 => .all (fun (r : Int) => r = orI n_3) fun n_4 => .leaf (.ret [.int .i64 n_4] [.box [.str a, .int .i64 d, .str v], .box [.str b, .int .i64 e, .str u], .arr 2 1 (zf 1 [.int .i64 n, .int .i64 n_2])])) (by kernel_rfl) ?_
 simp only [Tree.holds, ze]
 refine ⟨(a, b), ⟨by simp, trivial⟩, ⟨_, rfl⟩, ?_⟩
 rintro _ rfl
 refine ⟨(d, e), ⟨by simp, trivial⟩, ⟨_, rfl⟩, ?_⟩
 rintro _ rfl
 refine ⟨[cmpS a b, cmpI d e], ⟨⟨⟨rfl, rfl, XE _ _⟩, trivial⟩, by simp⟩, ⟨_, rfl⟩, ?_⟩
 rintro _ rfl
 have : orI [cmpS a b, cmpI d e] = cmpF ⟨a, d, v⟩ ⟨b, e, u⟩ := by
  simp only [orI, cmpF]
  by_cases h : cmpS a b = 0
  ·simp only [h, if_true]; split <;> simp_all
  ·simp only [if_neg h]
 rw [this]
 exact RetR.scal hq rfl (by simp [resV])
theorem xm : zd Try.prog 47 xX := by
 refine zm (fn := Try.f47) (c := Try.f47.body.getD .skip) rfl rfl rfl fun p hs O w0 Q hq => ?_
 obtain ⟨⟨a, d, v, f⟩, ⟨b, e, u, g⟩⟩ := p
 replace hq := hq _ rfl
 simp only at hq
 refine zc.run hmix YD [] 400 (T := .ex (fun (x : List UInt8 × List UInt8) => eqL [AV.str a, AV.str b] [AV.str x.1, AV.str x.2] ∧ True) fun n => .all (fun (r : Int) => r = cmpS n.1 n.2) fun n => .ex (fun (x : List UInt8 × List UInt8) => eqL [AV.str d, AV.str e] [AV.str x.1, AV.str x.2] ∧ True) fun n_1 => .all (fun (r : Int) => r = cmpS n_1.1 n_1.2) fun n_2 => .ex (fun (x : Int × Int) => eqL [AV.int .i64 v, AV.int .i64 u] [AV.int .i64 x.1, AV.int .i64 x.2] ∧ True) fun n_3 => .all (fun (r : Int) => r = cmpI n_3.1 n_3.2) fun n_4 => .ex (fun (x : List Int) => eqL [AV.sl 3 1 (zg (zf 1 [AV.int .i64 n, AV.int .i64 n_2, AV.int .i64 n_4]) 0)] [AV.sl x.length 1 fun (j x_1 : Nat) => AV.int .i64 (List.getD x j (0 : Int))] ∧ x.length < 1099511627776) fun n_5 => .all (fun (r : Int) => r = orI n_5) fun n_6 => .leaf (.ret [.int .i64 n_6] [.box [.str a, .str d, .int .i64 v, .bool f], .box [.str b, .str e, .int .i64 u, .bool g], .arr 3 1 (zf 1 [.int .i64 n, .int .i64 n_2, .int .i64 n_4])])) (by kernel_rfl) ?_
 simp only [Tree.holds, ze]
 refine ⟨(a, b), ⟨by simp, trivial⟩, ⟨_, rfl⟩, ?_⟩
 rintro _ rfl
 refine ⟨(d, e), ⟨by simp, trivial⟩, ⟨_, rfl⟩, ?_⟩
 rintro _ rfl
 refine ⟨(v, u), ⟨by simp, trivial⟩, ⟨_, rfl⟩, ?_⟩
 rintro _ rfl
 refine ⟨[cmpS a b, cmpS d e, cmpI v u], ⟨⟨⟨rfl, rfl, X5 _ _ _⟩, trivial⟩, by simp⟩, ⟨_, rfl⟩, ?_⟩
 rintro _ rfl
 have : orI [cmpS a b, cmpS d e, cmpI v u] = cmpC ⟨a, d, v, f⟩ ⟨b, e, u, g⟩ := by
  simp only [orI, cmpC]
  by_cases h : cmpS a b = 0
  ·simp only [h, if_true]
   by_cases h2 : cmpS d e = 0
   ·simp only [h2, if_true]; split <;> simp_all
   ·simp only [if_neg h2]
  ·simp only [if_neg h]
 rw [this]
 exact RetR.scal hq rfl (by simp [resV])
end Go.Proofs.Try
end

/- What is known: the checks. -/
section
set_option maxRecDepth 100000
open Go Go.Sx Go.Proofs Go.Nov
namespace Go.Proofs.Try
attribute [local simp] eqKV eqA eqA0 eqH eqB eqL eqL0
noncomputable def K66 : List Go.Sx.Item := [.code (Try.f66.body.getD .skip)]
noncomputable def K67 : List Go.Sx.Item := [.code (Try.f67.body.getD .skip)]
noncomputable def K44 : List Go.Sx.Item := [.code (Try.f44.body.getD .skip)]
noncomputable def K46 : List Go.Sx.Item := [.code (Try.f46.body.getD .skip)]
def jb (f : Fx) : Prop := f.name.length < 2 ^ 40 ∧ f.value.length < 2 ^ 40
def je (c : Ch) : Prop := c.zb.length < 2 ^ 40 ∧ c.name.length < 2 ^ 40
def zbe : Ctr := ctrP true (fun f : Fx => [f.av]) jb (fun f r => r = !okF f) (fun _ (r : Bool) => (.bool r, []))
def zb7 : Ctr := ctrP true (fun c : Ch => [c.av]) je (fun c r => r = !okC c) (fun _ (r : Bool) => (.bool r, []))
noncomputable def GE1 : Nat → Option Ctr := fun f => if f = 38 then some (W9) else if f = 39 then some (J0) else if f = 40 then some (uv) else none
theorem XS : ∀ g c, GE1 g = some c → zd Try.prog g c := okIf Jg (okIf Q8 (okIf y9 (zu)))
theorem UA : zd Try.prog 37 zbe := by
 refine zm (fn := Try.f37) (c := Try.f37.body.getD .skip) rfl rfl rfl fun f hs O w0 Q hq => ?_
 obtain ⟨a, d, v⟩ := f
 obtain ⟨h1, h2⟩ := hs
 replace hq := hq _ rfl
 simp only [okF] at hq h1 h2
 refine zc.run hmix XS [] 400 (T := .ex (fun (x : List UInt8) => eqL [AV.str a] [AV.str x] ∧ x.length < 4611686018427387904) fun n => .all (fun (r : Bool) => r = zI n) fun n => .ex (fun (x : Int) => (!n) = false → eqL [AV.int .i64 d] [AV.int .i64 x] ∧ True) fun n_1 => .all (fun (x : Bool) => (!n) = false → x = dayB n_1) fun n_2 => .ex (fun (x : List UInt8) => (bif !n then true else !n_2) = false → eqL [AV.str v] [AV.str x] ∧ x.length < 4611686018427387904) fun n_3 => .all (fun (x : Int) => (bif !n then true else !n_2) = false → x = errR n_3) fun n_4 => .leaf (.ret [.bool (bif bif !n then true else !n_2 then true else !decide (n_4 = 0))] [.box [.str a, .int .i64 d, .str v]])) (by kernel_rfl) ?_
 simp only [Tree.holds, ze]
 refine ⟨a, ⟨by simp, by omega⟩, ⟨_, rfl⟩, ?_⟩
 rintro _ rfl
 refine ⟨d, fun _ => ⟨by simp, trivial⟩, ⟨_, fun _ => rfl⟩, ?_⟩
 intro x hx
 refine ⟨v, fun _ => ⟨by simp, by omega⟩, ⟨_, fun _ => rfl⟩, ?_⟩
 intro y hy
 refine RetR.scal hq rfl ?_
 simp only [resV]
 cases hn : zI a with
 | false => rfl
 | true =>
  rw [hx (by rw [hn]; rfl)] at hy ⊢
  cases hd : dayB d with
  | false => rfl
  | true => rw [hy (by rw [hn, hd]; rfl)]; rfl
theorem zaq : zd Try.prog 41 zb7 := by
 refine zm (fn := Try.f41) (c := Try.f41.body.getD .skip) rfl rfl rfl fun f hs O w0 Q hq => ?_
 obtain ⟨a, v, d, f⟩ := f
 obtain ⟨h1, h2⟩ := hs
 replace hq := hq _ rfl
 simp only [okC] at hq h1 h2
 refine zc.run hmix XS [] 400 (T := .ex (fun (x : List UInt8) => eqL [AV.str a] [AV.str x] ∧ x.length < 4611686018427387904) fun n => .all (fun (r : Bool) => r = zI n) fun n => .ex (fun (x : List UInt8) => (!n) = false → eqL [AV.str v] [AV.str x] ∧ x.length < 4611686018427387904) fun n_1 => .all (fun (x : Bool) => (!n) = false → x = zI n_1) fun n_2 => .ex (fun (x : Int) => (bif !n then true else !n_2) = false → eqL [AV.int .i64 d] [AV.int .i64 x] ∧ True) fun n_3 => .all (fun (x : Bool) => (bif !n then true else !n_2) = false → x = dayB n_3) fun n_4 => .leaf (.ret [.bool (bif bif !n then true else !n_2 then true else !n_4)] [.box [.str a, .str v, .int .i64 d, .bool f]])) (by kernel_rfl) ?_
 simp only [Tree.holds, ze]
 refine ⟨a, ⟨by simp, by omega⟩, ⟨_, rfl⟩, ?_⟩
 rintro _ rfl
 refine ⟨v, fun _ => ⟨by simp, by omega⟩, ⟨_, fun _ => rfl⟩, ?_⟩
 intro x hx
 refine ⟨d, fun _ => ⟨by simp, trivial⟩, ⟨_, fun _ => rfl⟩, ?_⟩
 intro y hy
 refine RetR.scal hq rfl ?_
 simp only [resV]
 cases hn : zI a with
 | false => rfl
 | true =>
  rw [hx (by rw [hn]; rfl)] at hy ⊢
  cases hd : zI v with
  | false => rfl
  | true => rw [hy (by rw [hn, hd]; rfl)]; rfl
def zbg : Ctr := ctrP true (fun l : List Fx => [fxS l, .fn 37 [] []]) (fun l => l.length < 2 ^ 40 ∧ ∀ j, j < l.length → jb (l.getD j Fx.nil)) (fun l r => r = idxB (fun x => !okF x) l) (fun _ (r : Int) => (.int .i64 r, []))
def SIxF (l : List Fx) (i : Nat) : KV := [(0, fxS l), (1, .fn 37 [] []), (7, .int .i64 (l.length : Int)), (8, .int .i64 (i : Int))]
noncomputable def GE2F : Nat → Option Ctr := fun f => if f = 37 then some (zbe) else none
theorem VS : ∀ g c, GE2F g = some c → zd Try.prog g c := okIf UA (zu)
theorem U6 : zd Try.prog 66 zbg := by
 refine zm (fn := Try.f66) (c := Try.f66.body.getD .skip) rfl rfl rfl fun l hl O w0 Q hq => ?_
 obtain ⟨hl, hsm⟩ := hl
 replace hq := hq _ rfl
 refine zc.run hmix VS [0, 1, 7, 8] 400 (T := .leaf (.loop (Prod.fst (lps K66 0)) (Prod.snd (lps K66 0)) [(0, .sl l.length 3 (fxG l)), (1, .fn 37 [] []), (7, .int .i64 l.length), (8, .int .i64 0)] [])) (by kernel_rfl) ?_
 simp only [Tree.holds, ze]
 refine zc.loop (ι := {i : Nat // i ≤ l.length ∧ ∀ j, j < i → (!okF (l.getD j Fx.nil)) = false}) (fun i => SIxF l i.1) (fun _ => []) (fun i => l.length - i.1) ⟨0, Nat.zero_le _, fun j hj => by omega⟩ 0 ?_ ?_ (by kernel_rfl)
 ·exact ⟨by simp [SIxF, fxS, za], by simp, by kernel_rfl, Nat.zero_le _⟩
 ·rintro ⟨i, hil, hib⟩
  refine zc.run hmix VS [0, 1, 7, 8] 400 (T := .ite (decide ((↑i : Int) < l.length)) (.side ((0 : Int) ≤ i ∧ (↑i : Int) < l.length) (.ex (fun (x : Fx) => eqL [AV.agg [AV.str (Fx.name (List.getD l (Int.toNat (↑i : Int)) Fx.nil)), AV.int .i64 (Fx.date (List.getD l (Int.toNat (↑i : Int)) Fx.nil)), AV.str (Fx.value (List.getD l (Int.toNat (↑i : Int)) Fx.nil))]] [AV.agg [AV.str x.name, AV.int .i64 x.date, AV.str x.value]] ∧ jb x) fun n => .all (fun (r : Bool) => r = !okF n) fun n => .ite n (.leaf (.ret [.int .i64 i] [])) (.side (inR .i64 ((↑i : Int) + (1 : Int))) (.leaf (.back 0 [(0, .sl l.length 3 (fxG l)), (1, .fn 37 [] []), (7, .int .i64 l.length), (8, .int .i64 ((↑i : Int) + (1 : Int)))] []))))) (.leaf (.ret [.int .i64 (-1 : Int)] []))) (by kernel_rfl) ?_
  simp only [Tree.holds, ze, inR, lo, hi, Int.toNat_natCast]
  refine ⟨fun hlt => ?_, fun hge => ?_⟩
  ·have hlt : i < l.length := by have := of_decide_eq_true hlt; omega
   refine ⟨by omega, fun _ => ⟨l.getD i Fx.nil, ⟨by simp, hsm i hlt⟩, ⟨_, rfl⟩, ?_⟩⟩
   rintro _ rfl
   refine ⟨fun h => ?_, fun h => ⟨by omega, fun _ => ?_⟩⟩
   ·rw [xL hlt h hib] at hq
    exact RetR.scal hq rfl (by simp [resV])
   ·rw [if_pos trivial]
    refine ⟨⟨i + 1, hlt, fun j hj => ?_⟩, by show l.length - (i + 1) < l.length - i; omega, by simp [SIxF, fxS, za], by simp, by kernel_rfl, Nat.zero_le _⟩
    rcases Nat.lt_or_ge j i with h1 | h1
    ·exact hib j h1
    ·have : j = i := by omega
     rw [this]; exact h
  ·have hge : i = l.length := by have := of_decide_eq_false hge; omega
   subst hge
   rw [vf hib] at hq
   exact RetR.scal hq rfl (by simp [resV])
def zb1 : Ctr := ctrP true (fun l : List Fx => [fxS l, .fn 37 [] []]) (fun l => l.length < 2 ^ 40 ∧ ∀ j, j < l.length → jb (l.getD j Fx.nil)) (fun l r => r = l.any fun x => !okF x) (fun _ (r : Bool) => (.bool r, []))
noncomputable def GE3F : Nat → Option Ctr := fun f => if f = 66 then some (zbg) else none
theorem U9 : ∀ g c, GE3F g = some c → zd Try.prog g c := okIf U6 (zu)
theorem UW : zd Try.prog 42 zb1 := by
 refine zm (fn := Try.f42) (c := Try.f42.body.getD .skip) rfl rfl rfl fun l hl O w0 Q hq => ?_
 replace hq := hq _ rfl
 refine zc.run hmix U9 [] 400 (T := .ex (fun (x : List Fx) => eqL [AV.sl l.length 3 (fxG l), AV.fn 37 [] []] [AV.sl x.length 3 (fxG x), AV.fn 37 [] []] ∧ x.length < 1099511627776 ∧ ∀ (j : Nat), j < x.length → jb (x.getD j Fx.nil)) fun n => .all (fun (r : Int) => r = idxB (fun (x : Fx) => !okF x) n) fun n => .leaf (.ret [.bool (decide ((0 : Int) ≤ n))] [])) (by kernel_rfl) ?_
 simp only [Tree.holds, ze]
 refine ⟨l, ⟨by simp [za], hl⟩, ⟨_, rfl⟩, ?_⟩
 rintro _ rfl
 rw [← JE] at hq
 exact RetR.scal hq rfl (by simp [resV])
def zb3 : Ctr := ctrP true (fun l : List Ch => [chS l, .fn 41 [] []]) (fun l => l.length < 2 ^ 40 ∧ ∀ j, j < l.length → je (l.getD j Ch.nil)) (fun l r => r = idxB (fun x => !okC x) l) (fun _ (r : Int) => (.int .i64 r, []))
def SIxC (l : List Ch) (i : Nat) : KV := [(0, chS l), (1, .fn 41 [] []), (7, .int .i64 (l.length : Int)), (8, .int .i64 (i : Int))]
noncomputable def GE2C : Nat → Option Ctr := fun f => if f = 41 then some (zb7) else none
theorem VV : ∀ g c, GE2C g = some c → zd Try.prog g c := okIf zaq (zu)
theorem UB : zd Try.prog 67 zb3 := by
 refine zm (fn := Try.f67) (c := Try.f67.body.getD .skip) rfl rfl rfl fun l hl O w0 Q hq => ?_
 obtain ⟨hl, hsm⟩ := hl
 replace hq := hq _ rfl
 refine zc.run hmix VV [0, 1, 7, 8] 400 (T := .leaf (.loop (Prod.fst (lps K67 0)) (Prod.snd (lps K67 0)) [(0, .sl l.length 4 (chG l)), (1, .fn 41 [] []), (7, .int .i64 l.length), (8, .int .i64 0)] [])) (by kernel_rfl) ?_
 simp only [Tree.holds, ze]
 refine zc.loop (ι := {i : Nat // i ≤ l.length ∧ ∀ j, j < i → (!okC (l.getD j Ch.nil)) = false}) (fun i => SIxC l i.1) (fun _ => []) (fun i => l.length - i.1) ⟨0, Nat.zero_le _, fun j hj => by omega⟩ 0 ?_ ?_ (by kernel_rfl)
 ·exact ⟨by simp [SIxC, chS, za], by simp, by kernel_rfl, Nat.zero_le _⟩
 ·rintro ⟨i, hil, hib⟩
  refine zc.run hmix VV [0, 1, 7, 8] 400 (T := .ite (decide ((↑i : Int) < l.length)) (.side ((0 : Int) ≤ i ∧ (↑i : Int) < l.length) (.ex (fun (x : Ch) => eqL [AV.agg [AV.str (Ch.zb (List.getD l (Int.toNat (↑i : Int)) Ch.nil)), AV.str (Ch.name (List.getD l (Int.toNat (↑i : Int)) Ch.nil)), AV.int .i64 (Ch.date (List.getD l (Int.toNat (↑i : Int)) Ch.nil)), AV.bool (Ch.first (List.getD l (Int.toNat (↑i : Int)) Ch.nil))]] [AV.agg [AV.str x.zb, AV.str x.name, AV.int .i64 x.date, AV.bool x.first]] ∧ je x) fun n => .all (fun (r : Bool) => r = !okC n) fun n => .ite n (.leaf (.ret [.int .i64 i] [])) (.side (inR .i64 ((↑i : Int) + (1 : Int))) (.leaf (.back 0 [(0, .sl l.length 4 (chG l)), (1, .fn 41 [] []), (7, .int .i64 l.length), (8, .int .i64 ((↑i : Int) + (1 : Int)))] []))))) (.leaf (.ret [.int .i64 (-1 : Int)] []))) (by kernel_rfl) ?_
  simp only [Tree.holds, ze, inR, lo, hi, Int.toNat_natCast]
  refine ⟨fun hlt => ?_, fun hge => ?_⟩
  ·have hlt : i < l.length := by have := of_decide_eq_true hlt; omega
   refine ⟨by omega, fun _ => ⟨l.getD i Ch.nil, ⟨by simp, hsm i hlt⟩, ⟨_, rfl⟩, ?_⟩⟩
   rintro _ rfl
   refine ⟨fun h => ?_, fun h => ⟨by omega, fun _ => ?_⟩⟩
   ·rw [xL hlt h hib] at hq
    exact RetR.scal hq rfl (by simp [resV])
   ·rw [if_pos trivial]
    refine ⟨⟨i + 1, hlt, fun j hj => ?_⟩, by show l.length - (i + 1) < l.length - i; omega, by simp [SIxC, chS, za], by simp, by kernel_rfl, Nat.zero_le _⟩
    rcases Nat.lt_or_ge j i with h1 | h1
    ·exact hib j h1
    ·have : j = i := by omega
     rw [this]; exact h
  ·have hge : i = l.length := by have := of_decide_eq_false hge; omega
   subst hge
   rw [vf hib] at hq
   exact RetR.scal hq rfl (by simp [resV])
def zb4 : Ctr := ctrP true (fun l : List Ch => [chS l, .fn 41 [] []]) (fun l => l.length < 2 ^ 40 ∧ ∀ j, j < l.length → je (l.getD j Ch.nil)) (fun l r => r = l.any fun x => !okC x) (fun _ (r : Bool) => (.bool r, []))
noncomputable def GE3C : Nat → Option Ctr := fun f => if f = 67 then some (zb3) else none
theorem zab : ∀ g c, GE3C g = some c → zd Try.prog g c := okIf UB (zu)
theorem zaw : zd Try.prog 43 zb4 := by
 refine zm (fn := Try.f43) (c := Try.f43.body.getD .skip) rfl rfl rfl fun l hl O w0 Q hq => ?_
 replace hq := hq _ rfl
 refine zc.run hmix zab [] 400 (T := .ex (fun (x : List Ch) => eqL [AV.sl l.length 4 (chG l), AV.fn 41 [] []] [AV.sl x.length 4 (chG x), AV.fn 41 [] []] ∧ x.length < 1099511627776 ∧ ∀ (j : Nat), j < x.length → je (x.getD j Ch.nil)) fun n => .all (fun (r : Int) => r = idxB (fun (x : Ch) => !okC x) n) fun n => .leaf (.ret [.bool (decide ((0 : Int) ≤ n))] [])) (by kernel_rfl) ?_
 simp only [Tree.holds, ze]
 refine ⟨l, ⟨by simp [za], hl⟩, ⟨_, rfl⟩, ?_⟩
 rintro _ rfl
 rw [← JE] at hq
 exact RetR.scal hq rfl (by simp [resV])
def zb5 : Ctr := ctrP true (fun l : List Fx => [fxS l, .fn 45 [] []]) (fun l => l.length < 2 ^ 40) (fun l r => r = ordB cmpF Fx.nil l) (fun _ (r : Bool) => (.bool r, []))
def SOdF (l : List Fx) (i : Nat) : KV := [(0, fxS l), (1, .fn 45 [] []), (5, .int .i64 (i : Int))]
noncomputable def GE4F : Nat → Option Ctr := fun f => if f = 45 then some (xF) else none
theorem K4 : ∀ g c, GE4F g = some c → zd Try.prog g c := okIf kZ (zu)
theorem UM : zd Try.prog 44 zb5 := by
 refine zm (fn := Try.f44) (c := Try.f44.body.getD .skip) rfl rfl rfl fun l hl O w0 Q hq => ?_
 replace hq := hq _ rfl
 refine zc.run hmix K4 [0, 1, 5] 400 (T := .leaf (.loop (Prod.fst (lps K44 0)) (Prod.snd (lps K44 0)) [(0, .sl l.length 3 (fxG l)), (1, .fn 45 [] []), (5, .int .i64 1)] [])) (by kernel_rfl) ?_
 simp only [Tree.holds, ze]
 refine zc.loop (ι := {i : Nat // 0 < i ∧ (i ≤ l.length ∨ i = 1) ∧ ∀ j, j + 1 < i → cmpF (l.getD j Fx.nil) (l.getD (j + 1) Fx.nil) < 0}) (fun i => SOdF l i.1) (fun _ => []) (fun i => l.length - i.1) ⟨1, Nat.one_pos, .inr rfl, fun j hj => by omega⟩ 0 ?_ ?_ (by kernel_rfl)
 ·exact ⟨by simp [SOdF, fxS, za], by simp, by kernel_rfl, Nat.zero_le _⟩
 ·rintro ⟨i, hi0, hil, hib⟩
  refine zc.run hmix K4 [0, 1, 5] 400 (T := .ite (decide ((↑i : Int) < l.length)) (.side (inR .i64 ((↑i : Int) - (1 : Int))) (.side ((0 : Int) ≤ i - (1 : Int) ∧ (↑i : Int) - (1 : Int) < l.length) (.side ((0 : Int) ≤ i ∧ (↑i : Int) < l.length) (.ex (fun (x : Fx × Fx) => eqL [AV.agg [AV.str (Fx.name (List.getD l (Int.toNat ((↑i : Int) - (1 : Int))) Fx.nil)), AV.int .i64 (Fx.date (List.getD l (Int.toNat ((↑i : Int) - (1 : Int))) Fx.nil)), AV.str (Fx.value (List.getD l (Int.toNat ((↑i : Int) - (1 : Int))) Fx.nil))], AV.agg [AV.str (Fx.name (List.getD l (Int.toNat (↑i : Int)) Fx.nil)), AV.int .i64 (Fx.date (List.getD l (Int.toNat (↑i : Int)) Fx.nil)), AV.str (Fx.value (List.getD l (Int.toNat (↑i : Int)) Fx.nil))]] [AV.agg [AV.str x.1.name, AV.int .i64 x.1.date, AV.str x.1.value], AV.agg [AV.str x.2.name, AV.int .i64 x.2.date, AV.str x.2.value]] ∧ True) fun n => .all (fun (r : Int) => r = cmpF n.1 n.2) fun n => .ite (decide ((0 : Int) ≤ n)) (.leaf (.ret [.bool false] [])) (.side (inR .i64 ((↑i : Int) + (1 : Int))) (.leaf (.back 0 [(0, .sl l.length 3 (fxG l)), (1, .fn 45 [] []), (5, .int .i64 ((↑i : Int) + (1 : Int)))] []))))))) (.leaf (.ret [.bool true] []))) (by kernel_rfl) ?_
  simp only [Tree.holds, ze, inR, lo, hi, Int.toNat_natCast]
  have e : ((i : Int) - 1).toNat = i - 1 := by omega
  have e2 : i - 1 + 1 = i := by omega
  refine ⟨fun hlt => ?_, fun hge => ?_⟩
  ·have hlt : i < l.length := by have := of_decide_eq_true hlt; omega
   simp only [e]
   refine ⟨by omega, fun _ => ⟨by omega, fun _ => ⟨by omega, fun _ => ⟨(l.getD (i - 1) Fx.nil, l.getD i Fx.nil), ⟨by simp, trivial⟩, ⟨_, rfl⟩, ?_⟩⟩⟩⟩
   rintro _ rfl
   refine ⟨fun h => ?_, fun h => ⟨by omega, fun _ => ?_⟩⟩
   ·have h := of_decide_eq_true h
    rw [JA (z := Fx.nil) (j := i - 1) (by omega) (by rw [e2]; simp only at h; omega)] at hq
    exact RetR.scal hq rfl (by simp [resV])
   ·have h := of_decide_eq_false h
    rw [if_pos trivial]
    refine ⟨⟨i + 1, by omega, .inl hlt, fun j hj => ?_⟩, by show l.length - (i + 1) < l.length - i; omega, by simp [SOdF, fxS, za], by simp, by kernel_rfl, Nat.zero_le _⟩
    rcases Nat.lt_or_ge (j + 1) i with h1 | h1
    ·exact hib j h1
    ·have : j = i - 1 := by omega
     rw [this, e2]; simp only at h; omega
  ·have hge : l.length ≤ i := by have := of_decide_eq_false hge; omega
   rw [Zh (z := Fx.nil) fun j hj => hib j (by omega)] at hq
   exact RetR.scal hq rfl (by simp [resV])
def zbj : Ctr := ctrP true (fun l : List Ch => [chS l, .fn 47 [] []]) (fun l => l.length < 2 ^ 40) (fun l r => r = ordB cmpC Ch.nil l) (fun _ (r : Bool) => (.bool r, []))
def SOdC (l : List Ch) (i : Nat) : KV := [(0, chS l), (1, .fn 47 [] []), (5, .int .i64 (i : Int))]
noncomputable def GE4C : Nat → Option Ctr := fun f => if f = 47 then some (xX) else none
theorem Kt : ∀ g c, GE4C g = some c → zd Try.prog g c := okIf xm (zu)
theorem za5 : zd Try.prog 46 zbj := by
 refine zm (fn := Try.f46) (c := Try.f46.body.getD .skip) rfl rfl rfl fun l hl O w0 Q hq => ?_
 replace hq := hq _ rfl
 refine zc.run hmix Kt [0, 1, 5] 400 (T := .leaf (.loop (Prod.fst (lps K46 0)) (Prod.snd (lps K46 0)) [(0, .sl l.length 4 (chG l)), (1, .fn 47 [] []), (5, .int .i64 1)] [])) (by kernel_rfl) ?_
 simp only [Tree.holds, ze]
 refine zc.loop (ι := {i : Nat // 0 < i ∧ (i ≤ l.length ∨ i = 1) ∧ ∀ j, j + 1 < i → cmpC (l.getD j Ch.nil) (l.getD (j + 1) Ch.nil) < 0}) (fun i => SOdC l i.1) (fun _ => []) (fun i => l.length - i.1) ⟨1, Nat.one_pos, .inr rfl, fun j hj => by omega⟩ 0 ?_ ?_ (by kernel_rfl)
 ·exact ⟨by simp [SOdC, chS, za], by simp, by kernel_rfl, Nat.zero_le _⟩
 ·rintro ⟨i, hi0, hil, hib⟩
  refine zc.run hmix Kt [0, 1, 5] 400 (T := .ite (decide ((↑i : Int) < l.length)) (.side (inR .i64 ((↑i : Int) - (1 : Int))) (.side ((0 : Int) ≤ i - (1 : Int) ∧ (↑i : Int) - (1 : Int) < l.length) (.side ((0 : Int) ≤ i ∧ (↑i : Int) < l.length) (.ex (fun (x : Ch × Ch) => eqL [AV.agg [AV.str (Ch.zb (List.getD l (Int.toNat ((↑i : Int) - (1 : Int))) Ch.nil)), AV.str (Ch.name (List.getD l (Int.toNat ((↑i : Int) - (1 : Int))) Ch.nil)), AV.int .i64 (Ch.date (List.getD l (Int.toNat ((↑i : Int) - (1 : Int))) Ch.nil)), AV.bool (Ch.first (List.getD l (Int.toNat ((↑i : Int) - (1 : Int))) Ch.nil))], AV.agg [AV.str (Ch.zb (List.getD l (Int.toNat (↑i : Int)) Ch.nil)), AV.str (Ch.name (List.getD l (Int.toNat (↑i : Int)) Ch.nil)), AV.int .i64 (Ch.date (List.getD l (Int.toNat (↑i : Int)) Ch.nil)), AV.bool (Ch.first (List.getD l (Int.toNat (↑i : Int)) Ch.nil))]] [AV.agg [AV.str x.1.zb, AV.str x.1.name, AV.int .i64 x.1.date, AV.bool x.1.first], AV.agg [AV.str x.2.zb, AV.str x.2.name, AV.int .i64 x.2.date, AV.bool x.2.first]] ∧ True) fun n => .all (fun (r : Int) => r = cmpC n.1 n.2) fun n => .ite (decide ((0 : Int) ≤ n)) (.leaf (.ret [.bool false] [])) (.side (inR .i64 ((↑i : Int) + (1 : Int))) (.leaf (.back 0 [(0, .sl l.length 4 (chG l)), (1, .fn 47 [] []), (5, .int .i64 ((↑i : Int) + (1 : Int)))] []))))))) (.leaf (.ret [.bool true] []))) (by kernel_rfl) ?_
  simp only [Tree.holds, ze, inR, lo, hi, Int.toNat_natCast]
  have e : ((i : Int) - 1).toNat = i - 1 := by omega
  have e2 : i - 1 + 1 = i := by omega
  refine ⟨fun hlt => ?_, fun hge => ?_⟩
  ·have hlt : i < l.length := by have := of_decide_eq_true hlt; omega
   simp only [e]
   refine ⟨by omega, fun _ => ⟨by omega, fun _ => ⟨by omega, fun _ => ⟨(l.getD (i - 1) Ch.nil, l.getD i Ch.nil), ⟨by simp, trivial⟩, ⟨_, rfl⟩, ?_⟩⟩⟩⟩
   rintro _ rfl
   refine ⟨fun h => ?_, fun h => ⟨by omega, fun _ => ?_⟩⟩
   ·have h := of_decide_eq_true h
    rw [JA (z := Ch.nil) (j := i - 1) (by omega) (by rw [e2]; simp only at h; omega)] at hq
    exact RetR.scal hq rfl (by simp [resV])
   ·have h := of_decide_eq_false h
    rw [if_pos trivial]
    refine ⟨⟨i + 1, by omega, .inl hlt, fun j hj => ?_⟩, by show l.length - (i + 1) < l.length - i; omega, by simp [SOdC, chS, za], by simp, by kernel_rfl, Nat.zero_le _⟩
    rcases Nat.lt_or_ge (j + 1) i with h1 | h1
    ·exact hib j h1
    ·have : j = i - 1 := by omega
     rw [this, e2]; simp only at h; omega
  ·have hge : l.length ≤ i := by have := of_decide_eq_false hge; omega
   rw [Zh (z := Ch.nil) fun j hj => hib j (by omega)] at hq
   exact RetR.scal hq rfl (by simp [resV])
def envP (p : List Fx × List Ch) : Prop := p.1.length < 2 ^ 40 ∧ p.2.length < 2 ^ 40 ∧ (∀ j, j < p.1.length → jb (p.1.getD j Fx.nil)) ∧ ∀ j, j < p.2.length → je (p.2.getD j Ch.nil)
def Ja : Ctr := ctrP true (fun p : List Fx × List Ch => [envA p.1 p.2]) envP (fun p r => r = errE p.1 p.2) (fun _ (r : Int) => (.int .i64 r, []))
noncomputable def GE5 : Nat → Option Ctr := fun f => if f = 42 then some (zb1) else if f = 43 then some (zb4) else if f = 44 then some (zb5) else if f = 46 then some (zbj) else none
theorem zci : ∀ g c, GE5 g = some c → zd Try.prog g c := okIf UW (okIf zaw (okIf UM (okIf za5 (zu))))
theorem ZX : zd Try.prog 21 Ja := by
 refine zm (fn := Try.f21) (c := Try.f21.body.getD .skip) rfl rfl rfl fun p hp O w0 Q hq => ?_
 obtain ⟨f, c⟩ := p
 obtain ⟨h1, h2, h3, h4⟩ := hp
 replace hq := hq _ rfl
 simp only at hq h1 h2 h3 h4
 refine zc.run hmix zci [] 400 (T := .ite (bif decide ((1000 : Int) < f.length) then true else decide ((1000 : Int) < c.length)) (.leaf (.ret [.int .i64 4] [.box [.sl f.length 3 (fxG f), .sl c.length 4 (chG c)]])) (.ex (fun (x : List Fx) => eqL [AV.sl f.length 3 (fxG f), AV.fn 37 [] []] [AV.sl x.length 3 (fxG x), AV.fn 37 [] []] ∧ x.length < 1099511627776 ∧ ∀ (j : Nat), j < x.length → jb (x.getD j Fx.nil)) fun n => .all (fun (r : Bool) => r = List.any n fun (x : Fx) => !okF x) fun n => .ex (fun (x : List Ch) => n = false → eqL [AV.sl c.length 4 (chG c), AV.fn 41 [] []] [AV.sl x.length 4 (chG x), AV.fn 41 [] []] ∧ x.length < 1099511627776 ∧ ∀ (j : Nat), j < x.length → je (x.getD j Ch.nil)) fun n_1 => .all (fun (x : Bool) => n = false → x = List.any n_1 fun (x : Ch) => !okC x) fun n_2 => .ex (fun (x : List Fx) => (bif n then true else n_2) = false → eqL [AV.sl f.length 3 (fxG f), AV.fn 45 [] []] [AV.sl x.length 3 (fxG x), AV.fn 45 [] []] ∧ x.length < 1099511627776) fun n_3 => .all (fun (x : Bool) => (bif n then true else n_2) = false → x = ordB cmpF Fx.nil n_3) fun n_4 => .ex (fun (x : List Ch) => (bif bif n then true else n_2 then true else !n_4) = false → eqL [AV.sl c.length 4 (chG c), AV.fn 47 [] []] [AV.sl x.length 4 (chG x), AV.fn 47 [] []] ∧ x.length < 1099511627776) fun n_5 => .all (fun (x : Bool) => (bif bif n then true else n_2 then true else !n_4) = false → x = ordB cmpC Ch.nil n_5) fun n_6 => .ite (bif bif bif n then true else n_2 then true else !n_4 then true else !n_6) (.leaf (.ret [.int .i64 8] [.box [.sl f.length 3 (fxG f), .sl c.length 4 (chG c)]])) (.leaf (.ret [.int .i64 0] [.box [.sl f.length 3 (fxG f), .sl c.length 4 (chG c)]])))) (by kernel_rfl) ?_
 simp only [Tree.holds, ze]
 refine ⟨fun h => ?_, fun h => ?_⟩
 ·have h : 1000 < f.length ∨ 1000 < c.length := by
   rw [Bool.cond_eq_ite] at h
   split at h
   ·rename_i h1; left; have := of_decide_eq_true h1; omega
   ·right; have := of_decide_eq_true h; omega
  have : errE f c = 4 := if_pos h
  rw [this] at hq; exact RetR.scal hq rfl (by simp [resV])
 ·have h : ¬ (1000 < f.length ∨ 1000 < c.length) := by
   rw [Bool.cond_eq_ite] at h
   split at h
   ·cases h
   ·rename_i h1
    have h2 := of_decide_eq_false h
    rintro (h3 | h3)
    ·exact h1 (decide_eq_true (by omega))
    ·omega
  have he : errE f c = if (f.all okF && c.all okC && ordB cmpF Fx.nil f && ordB cmpC Ch.nil c) = true then 0 else 8 := if_neg h
  have a1 : (f.any fun x => !okF x) = !f.all okF := by rw [List.not_all_eq_any_not]
  have a2 : (c.any fun x => !okC x) = !c.all okC := by rw [List.not_all_eq_any_not]
  refine ⟨f, ⟨by simp [za], h1, h3⟩, ⟨_, rfl⟩, ?_⟩
  rintro _ rfl
  refine ⟨c, fun _ => ⟨by simp [za], h2, h4⟩, ⟨_, fun _ => rfl⟩, ?_⟩
  intro b1 g1
  refine ⟨f, fun _ => ⟨by simp [za], h1⟩, ⟨_, fun _ => rfl⟩, ?_⟩
  intro b2 g2
  refine ⟨c, fun _ => ⟨by simp [za], h2⟩, ⟨_, fun _ => rfl⟩, ?_⟩
  intro b3 g3
  rw [a1] at g1 g2 g3 ⊢
  rw [a2] at g1
  clear a1 a2
  generalize f.all okF = p1 at *
  generalize c.all okC = p2 at *
  generalize ordB cmpF Fx.nil f = p3 at *
  generalize ordB cmpC Ch.nil c = p4 at *
  have key : (bif bif bif !p1 then true else b1 then true else !b2 then true else !b3) = !(p1 && p2 && p3 && p4) := by
   cases p1 with
   | false => rfl
   | true =>
    have g1 := g1 rfl
    subst g1
    cases p2 with
    | false => rfl
    | true =>
     have g2 := g2 rfl
     subst g2
     cases b2 with
     | false => rfl
     | true => have g3 := g3 rfl; subst g3; rfl
  rw [key]
  clear key g1 g2 g3
  generalize (p1 && p2 && p3 && p4) = q at *
  refine ⟨fun h => ?_, fun h => ?_⟩
  ·cases q with
   | true => cases h
   | false => rw [he, if_neg (by decide)] at hq; exact RetR.scal hq rfl (by simp [resV])
  ·cases q with
   | false => cases h
   | true => rw [he, if_pos rfl] at hq; exact RetR.scal hq rfl (by simp [resV])
end Go.Proofs.Try
end

/- What is known: the reference's checks. -/
section
set_option maxRecDepth 100000
open Go Go.Sx Go.Proofs Go.Nov
namespace Go.Proofs.Try
attribute [local simp] eqKV eqA eqA0 eqH eqB eqL eqL0
noncomputable def K19 : List Go.Sx.Item := [.code (Try.f19.body.getD .skip)]
def SSE (i : Nat) : KV := [(2, .ptr 0 0), (3, .ptr 1 0), (5, .int .i64 (i : Int)), (6, .undef)]
def SSE2 (i : Nat) : KV := [(2, .ptr 0 0), (3, .ptr 1 0), (5, .undef), (6, .int .i64 (i : Int))]
def HSE (f f2 : List Fx) (c c2 : List Ch) : Heap := [.box [fxS f, chS c], .box [fxS f2, chS c2]]
def QE : Ctr := ctrP true (fun p : (List Fx × List Ch) × (List Fx × List Ch) => [envA p.1.1 p.1.2, envA p.2.1 p.2.2]) (fun p => p.1.1.length < 2 ^ 40 ∧ p.1.2.length < 2 ^ 40) (fun p r => (r = true ↔ p.1 = p.2)) (fun _ (r : Bool) => (.bool r, []))
theorem JM {O : Nat → Prop} {w0 : World} {Q : AV × Heap → Prop} {Hs : Nat → KV → Heap → Prop} (f f2 : List Fx) (c c2 : List Ch) (h2 : c.length < 2 ^ 40) (hf : f = f2) (hl : c.length = c2.length) (hq : ∀ (r : Bool), (r = true ↔ (f, c) = (f2, c2)) → Q (.bool r, [])) (kv : KV) (h : Heap) (hle : LeK 0 Try.f19.ntmps kv h (SSE2 0) (HSE f f2 c c2)) :
  zc Try.prog Try.f19 O 0 w0 [] Hs (RetR QE 0 Q) (.code (.loop (lps (inside K19 0) 0).1) :: (lps (inside K19 0) 0).2) (mk Try.f19.ntmps kv h) := by
 refine zc.loop (ι := {i : Nat // i ≤ c.length ∧ ∀ j, j < i → c.getD j Ch.nil = c2.getD j Ch.nil}) (fun i => SSE2 i.1) (fun _ => HSE f f2 c c2) (fun i => c.length - i.1) ⟨0, Nat.zero_le _, fun j hj => by omega⟩ 0 hle ?_ (by kernel_rfl)
 rintro ⟨i, hil, hib⟩
 refine zc.run hmix z7 [2, 3, 5, 6] 400 (T := .ite (decide ((↑i : Int) < c.length)) (.side ((0 : Int) ≤ i ∧ (↑i : Int) < c.length) (.side ((0 : Int) ≤ i ∧ (↑i : Int) < c2.length) (.ite (!(decide (Ch.zb (List.getD c (Int.toNat (↑i : Int)) Ch.nil) = Ch.zb (List.getD c2 (Int.toNat (↑i : Int)) Ch.nil)) && (decide (Ch.name (List.getD c (Int.toNat (↑i : Int)) Ch.nil) = Ch.name (List.getD c2 (Int.toNat (↑i : Int)) Ch.nil)) && (decide (Ch.date (List.getD c (Int.toNat (↑i : Int)) Ch.nil) = Ch.date (List.getD c2 (Int.toNat (↑i : Int)) Ch.nil)) && (Ch.first (List.getD c (Int.toNat (↑i : Int)) Ch.nil) == Ch.first (List.getD c2 (Int.toNat (↑i : Int)) Ch.nil) && true))))) (.leaf (.ret [.bool false] [.box [.sl f.length 3 (fxG f), .sl c.length 4 (chG c)], .box [.sl f2.length 3 (fxG f2), .sl c2.length 4 (chG c2)]])) (.side (inR .i64 ((↑i : Int) + (1 : Int))) (.leaf (.back 0 [(2, .ptr 0 0), (3, .ptr 1 0), (5, .undef), (6, .int .i64 ((↑i : Int) + (1 : Int)))] [.box [.sl f.length 3 (fxG f), .sl c.length 4 (chG c)], .box [.sl f2.length 3 (fxG f2), .sl c2.length 4 (chG c2)]])))))) (.leaf (.ret [.bool true] [.box [.sl f.length 3 (fxG f), .sl c.length 4 (chG c)], .box [.sl f2.length 3 (fxG f2), .sl c2.length 4 (chG c2)]]))) (by kernel_rfl) ?_
 simp only [Tree.holds, ze, inR, lo, hi, Int.toNat_natCast]
 refine ⟨fun hlt => ?_, fun hge => ?_⟩
 ·have hlt : i < c.length := by have := of_decide_eq_true hlt; omega
  refine ⟨by omega, fun _ => ⟨by omega, fun _ => ⟨fun h => ?_, fun h => ⟨by omega, fun _ => ?_⟩⟩⟩⟩
  ·refine RetR.scal (hq false ⟨fun h => (by cases h), fun he => ?_⟩) rfl (by simp [resV])
   have hc : c = c2 := (Prod.mk.inj he).2
   have := Ch.eq_iff.2 (show c.getD i Ch.nil = c2.getD i Ch.nil by rw [hc])
   rw [this] at h; cases h
  ·rw [if_pos trivial]
   have he := Ch.eq_iff.1 (by simpa only [Bool.not_eq_false'] using h)
   refine ⟨⟨i + 1, hlt, fun j hj => ?_⟩, by show c.length - (i + 1) < c.length - i; omega, by simp [SSE2], by simp [HSE, fxS, chS, za], by kernel_rfl, Nat.zero_le _⟩
   rcases Nat.lt_or_ge j i with h1 | h1
   ·exact hib j h1
   ·have : j = i := by omega
    rw [this]; exact he
 ·have hge : i = c.length := by have := of_decide_eq_false hge; omega
  subst hge
  have hc := JY hl hib
  exact RetR.scal (hq true ⟨fun _ => by rw [hf, hc], fun _ => rfl⟩) rfl (by simp [resV])
theorem W6 : zd Try.prog 19 QE := by
 refine zm (fn := Try.f19) (c := Try.f19.body.getD .skip) rfl rfl rfl fun p hp O w0 Q hq => ?_
 obtain ⟨⟨f, c⟩, ⟨f2, c2⟩⟩ := p
 obtain ⟨h1, h2⟩ := hp
 simp only at hq h1 h2
 refine zc.run hmix z7 [2, 3, 5, 6] 400 (T := .ite (bif !decide ((↑f.length : Int) = f2.length) then true else !decide ((↑c.length : Int) = c2.length)) (.leaf (.ret [.bool false] [.box [.sl f.length 3 (fxG f), .sl c.length 4 (chG c)], .box [.sl f2.length 3 (fxG f2), .sl c2.length 4 (chG c2)]])) (.leaf (.loop (Prod.fst (lps K19 0)) (Prod.snd (lps K19 0)) [(2, .ptr 0 0), (3, .ptr 1 0), (5, .int .i64 0), (6, .undef)] [.box [.sl f.length 3 (fxG f), .sl c.length 4 (chG c)], .box [.sl f2.length 3 (fxG f2), .sl c2.length 4 (chG c2)]]))) (by kernel_rfl) ?_
 simp only [Tree.holds, ze]
 refine ⟨fun h => ?_, fun h => ?_⟩
 ·refine RetR.scal (hq false ⟨fun h => (by cases h), fun he => ?_⟩) rfl (by simp [resV])
  obtain ⟨e1, e2⟩ := Prod.mk.inj he
  subst e1; subst e2
  simp at h
 ·have hl : f.length = f2.length ∧ c.length = c2.length := by
   by_cases e1 : f.length = f2.length
   ·by_cases e2 : c.length = c2.length
    ·exact ⟨e1, e2⟩
    ·rw [decide_eq_false (show ¬ ((c.length : Nat) : Int) = c2.length by omega)] at h
     rw [decide_eq_true (show ((f.length : Nat) : Int) = f2.length by omega)] at h
     cases h
   ·rw [decide_eq_false (show ¬ ((f.length : Nat) : Int) = f2.length by omega)] at h
    cases h
  refine zc.loop (ι := {i : Nat // i ≤ f.length ∧ ∀ j, j < i → f.getD j Fx.nil = f2.getD j Fx.nil}) (fun i => SSE i.1) (fun _ => HSE f f2 c c2) (fun i => f.length - i.1) ⟨0, Nat.zero_le _, fun j hj => by omega⟩ 0 ?_ ?_ (by kernel_rfl)
  ·exact ⟨by simp [SSE], by simp [HSE, fxS, chS, za], by kernel_rfl, Nat.zero_le _⟩
  ·rintro ⟨i, hil, hib⟩
   refine zc.run hmix z7 [2, 3, 5, 6] 400 (T := .ite (decide ((↑i : Int) < f.length)) (.side ((0 : Int) ≤ i ∧ (↑i : Int) < f.length) (.side ((0 : Int) ≤ i ∧ (↑i : Int) < f2.length) (.ite (!(decide (Fx.name (List.getD f (Int.toNat (↑i : Int)) Fx.nil) = Fx.name (List.getD f2 (Int.toNat (↑i : Int)) Fx.nil)) && (decide (Fx.date (List.getD f (Int.toNat (↑i : Int)) Fx.nil) = Fx.date (List.getD f2 (Int.toNat (↑i : Int)) Fx.nil)) && (decide (Fx.value (List.getD f (Int.toNat (↑i : Int)) Fx.nil) = Fx.value (List.getD f2 (Int.toNat (↑i : Int)) Fx.nil)) && true)))) (.leaf (.ret [.bool false] [.box [.sl f.length 3 (fxG f), .sl c.length 4 (chG c)], .box [.sl f2.length 3 (fxG f2), .sl c2.length 4 (chG c2)]])) (.side (inR .i64 ((↑i : Int) + (1 : Int))) (.leaf (.back 0 [(2, .ptr 0 0), (3, .ptr 1 0), (5, .int .i64 ((↑i : Int) + (1 : Int))), (6, .undef)] [.box [.sl f.length 3 (fxG f), .sl c.length 4 (chG c)], .box [.sl f2.length 3 (fxG f2), .sl c2.length 4 (chG c2)]])))))) (.leaf (.loop (Prod.fst (lps (inside K19 0) 0)) (Prod.snd (lps (inside K19 0) 0)) [(2, .ptr 0 0), (3, .ptr 1 0), (5, .int .i64 i), (6, .int .i64 0)] [.box [.sl f.length 3 (fxG f), .sl c.length 4 (chG c)], .box [.sl f2.length 3 (fxG f2), .sl c2.length 4 (chG c2)]]))) (by kernel_rfl) ?_
   simp only [Tree.holds, ze, inR, lo, hi, Int.toNat_natCast]
   refine ⟨fun hlt => ?_, fun hge => ?_⟩
   ·have hlt : i < f.length := by have := of_decide_eq_true hlt; omega
    refine ⟨by omega, fun _ => ⟨by omega, fun _ => ⟨fun h => ?_, fun h => ⟨by omega, fun _ => ?_⟩⟩⟩⟩
    ·refine RetR.scal (hq false ⟨fun h => (by cases h), fun he => ?_⟩) rfl (by simp [resV])
     have hc : f = f2 := (Prod.mk.inj he).1
     have := Fx.eq_iff.2 (show f.getD i Fx.nil = f2.getD i Fx.nil by rw [hc])
     rw [this] at h; cases h
    ·rw [if_pos trivial]
     have he := Fx.eq_iff.1 (by simpa only [Bool.not_eq_false'] using h)
     refine ⟨⟨i + 1, hlt, fun j hj => ?_⟩, by show f.length - (i + 1) < f.length - i; omega, by simp [SSE], by simp [HSE, fxS, chS, za], by kernel_rfl, Nat.zero_le _⟩
     rcases Nat.lt_or_ge j i with h1 | h1
     ·exact hib j h1
     ·have : j = i := by omega
      rw [this]; exact he
   ·have hge : i = f.length := by have := of_decide_eq_false hge; omega
    subst hge
    have hf := JY hl.1 hib
    exact JM f f2 c c2 h2 hf hl.2 hq _ _ ⟨by simp [SSE2], by simp [HSE, fxS, chS, za], by kernel_rfl, Nat.zero_le _⟩
end Go.Proofs.Try
end

/- What is known: the reference's checks, finding, copies. -/
section
set_option maxRecDepth 100000
open Go Go.Sx Go.Proofs Go.Nov
namespace Go.Proofs.Try
attribute [local simp] eqKV eqA eqA0 eqH eqB eqL eqL0
def zb2 : Ctr := ctrP true (fun p : (List Fx × List Ch) × (List UInt8 × Int) => [envA p.1.1 p.1.2, .str p.2.1, .int .i64 p.2.2]) (fun p => p.1.1.length < 2 ^ 40) (fun p r => r = jP p.1.1 p.2.1 p.2.2) (fun _ r => (.tup [.str r.1, .bool r.2], []))
def KE : Ctr := ctrP true (fun p : (List Fx × List Ch) × (List UInt8 × List UInt8 × Int) => [envA p.1.1 p.1.2, .str p.2.1, .str p.2.2.1, .int .i64 p.2.2.2]) (fun p => p.1.2.length < 2 ^ 40) (fun p r => r = qe p.1.2 p.2.1 p.2.2.1 p.2.2.2) (fun _ r => (.bool r, []))
end Go.Proofs.Try
end

/- What is known: the reference's copies and places. -/
section
set_option maxRecDepth 100000
open Go Go.Sx Go.Proofs Go.Nov
namespace Go.Proofs.Try
attribute [local simp] eqKV eqA eqA0 eqH eqB eqL eqL0
theorem uz {n : Nat} {g : Nat → Nat → AV} {l : List Fx} (h : eqG n 3 g (fxG l)) : newB (.arr n 3 g) := fun j o hj ho => by rw [h j o hj ho]; exact QD l j o ho
theorem uw {n : Nat} {g : Nat → Nat → AV} {l : List Ch} (h : eqG n 4 g (chG l)) : newB (.arr n 4 g) := fun j o hj ho => by rw [h j o hj ho]; exact QP l j o ho
end Go.Proofs.Try
end

/- What is known: size; the code's finding. -/
section
set_option maxRecDepth 100000
open Go Go.Sx Go.Proofs Go.Nov
namespace Go.Proofs.Try
attribute [local simp] eqKV eqA eqA0 eqH eqB eqL eqL0
def QC : Ctr := ctrP true (fun l : List Fx => [fxS l]) (fun l => l.length < 2 ^ 40) (fun _ (_ : Unit) => True) (fun l _ => (.osl 0 3 0 l.length, [.arr l.length 3 (fxG l)]))
def QH : Ctr := ctrP true (fun l : List Ch => [chS l]) (fun l => l.length < 2 ^ 40) (fun _ (_ : Unit) => True) (fun l _ => (.osl 0 4 0 l.length, [.arr l.length 4 (chG l)]))
theorem Qt : zd Try.prog 82 QC := by
 refine vW (fn := Try.f82) (c := Try.f82.body.getD .skip) rfl rfl rfl fun l hl O w0 Q hq => ?_
 replace hq := hq () trivial
 refine zc.run hmix z7 [] 400 (T := .all (fun (b : Bool) => 0 < l.length → b = false) fun n => .ite n (.leaf (.ret [.nils] [])) (.side (0 = 0 ∧ 0 ≤ 0 ∧ (0 + l.length) * 40 ≤ 140737488355328) (.leaf (.ret [.osl 0 3 0 (0 + l.length)] [.arr (0 + l.length) 3 (appG 0 (zf 3 []) (fxG l))])))) (by kernel_rfl) ?_
 simp only [Tree.holds, ze]
 refine ⟨⟨false, fun _ => rfl⟩, fun b hb => ⟨fun h => ?_, fun h => ⟨⟨trivial, Nat.le_refl _, by omega⟩, fun _ => ?_⟩⟩⟩
 ·have h0 : l = [] := by
   rcases Nat.eq_zero_or_pos l.length with h0 | h0
   ·exact List.length_eq_zero_iff.1 h0
   ·rw [hb h0] at h; cases h
  subst h0
  refine RetR.scal (.inr ⟨.osl 0 3 0 0, [(3, fxG [])], by simp [upA2, upA1, upA0], ?_⟩) (r := .nils) rfl (by simp [resV])
  exact hq
 ·refine RetR.outs [0] rfl rfl (.inl hq) (fun _ => ⟨?_, ?_⟩) ?_ ?_ rfl
  ·simp [resV, new2, new1, new0, zp]
  ·simp only [List.mem_cons, List.not_mem_nil, or_false, forall_eq]
   exact uz (xz _ _ _ _)
  ·simp [resV, exp2, exp1, exp0, zp, eqA2, eqL1]
  ·exact ⟨⟨by omega, rfl, xz _ _ _ _⟩, trivial⟩
theorem ZP : zd Try.prog 80 QH := by
 refine vW (fn := Try.f80) (c := Try.f80.body.getD .skip) rfl rfl rfl fun l hl O w0 Q hq => ?_
 replace hq := hq () trivial
 refine zc.run hmix z7 [] 400 (T := .all (fun (b : Bool) => 0 < l.length → b = false) fun n => .ite n (.leaf (.ret [.nils] [])) (.side (0 = 0 ∧ 0 ≤ 0 ∧ (0 + l.length) * 48 ≤ 140737488355328) (.leaf (.ret [.osl 0 4 0 (0 + l.length)] [.arr (0 + l.length) 4 (appG 0 (zf 4 []) (chG l))])))) (by kernel_rfl) ?_
 simp only [Tree.holds, ze]
 refine ⟨⟨false, fun _ => rfl⟩, fun b hb => ⟨fun h => ?_, fun h => ⟨⟨trivial, Nat.le_refl _, by omega⟩, fun _ => ?_⟩⟩⟩
 ·have h0 : l = [] := by
   rcases Nat.eq_zero_or_pos l.length with h0 | h0
   ·exact List.length_eq_zero_iff.1 h0
   ·rw [hb h0] at h; cases h
  subst h0
  refine RetR.scal (.inr ⟨.osl 0 4 0 0, [(4, chG [])], by simp [upA2, upA1, upA0], ?_⟩) (r := .nils) rfl (by simp [resV])
  exact hq
 ·refine RetR.outs [0] rfl rfl (.inl hq) (fun _ => ⟨?_, ?_⟩) ?_ ?_ rfl
  ·simp [resV, new2, new1, new0, zp]
  ·simp only [List.mem_cons, List.not_mem_nil, or_false, forall_eq]
   exact uw (xz _ _ _ _)
  ·simp [resV, exp2, exp1, exp0, zp, eqA2, eqL1]
  ·exact ⟨⟨by omega, rfl, xz _ _ _ _⟩, trivial⟩
def HIdF (x : Fx) : Heap := [.box [.fn 45 [] []], .box [.str x.name, .int .i64 x.date, .str x.value]]
def HIdC (x : Ch) : Heap := [.box [.fn 47 [] []], .box [.str x.zb, .str x.name, .int .i64 x.date, .bool x.first]]
def zay : Ctr := ctrT false false (fun p : Fx × Fx => [p.1.av, .ptr 0 0, .ptr 1 0]) (fun p => HIdF p.2) (fun _ => True) (fun p r => r = decide (cmpF p.1 p.2 = 0)) (fun p (r : Bool) => (.bool r, HIdF p.2))
def zb9 : Ctr := ctrT false false (fun p : Ch × Ch => [p.1.av, .ptr 0 0, .ptr 1 0]) (fun p => HIdC p.2) (fun _ => True) (fun p r => r = decide (cmpC p.1 p.2 = 0)) (fun p (r : Bool) => (.bool r, HIdC p.2))
noncomputable def GI1 : Nat → Option Ctr := fun f => if f = 45 then some (xF) else if f = 47 then some (xX) else none
theorem Ui : ∀ g c, GI1 g = some c → zd Try.prog g c := okIf kZ (okIf xm (zu))
theorem za2 : zd Try.prog 71 zay := by
 refine jH (fn := Try.f71) (c := Try.f71.body.getD .skip) rfl rfl rfl (fun h => by cases h) fun p hp O w0 σ0 Q hl0 hq => ?_
 obtain ⟨⟨a, d, v⟩, ⟨b, e, u⟩⟩ := p
 replace hq := hq _ rfl
 simp only at hq
 refine zc.run hmix Ui [] 400 (T := .ex (fun (x : Fx × Fx) => eqL [AV.agg [AV.str a, AV.int .i64 d, AV.str v], AV.agg [AV.str b, AV.int .i64 e, AV.str u]] [AV.agg [AV.str x.1.name, AV.int .i64 x.1.date, AV.str x.1.value], AV.agg [AV.str x.2.name, AV.int .i64 x.2.date, AV.str x.2.value]] ∧ True) fun n => .all (fun (r : Int) => r = cmpF n.1 n.2) fun n => .leaf (.ret [.bool (decide (n = 0))] [.box [.fn 45 [] []], .box [.str b, .int .i64 e, .str u], .box [.str a, .int .i64 d, .str v]])) (by kernel_rfl) ?_
 simp only [Tree.holds, ze]
 refine ⟨(⟨a, d, v⟩, ⟨b, e, u⟩), ⟨by simp, trivial⟩, ⟨_, rfl⟩, ?_⟩
 rintro _ rfl
 exact RetR.keep [0, 1] rfl rfl (by show ∀ j, j < 2 → _; decide) rfl hq (by simp [resV, exp2, exp1, exp0, ren0, eqA2]) (by simp [expH, expB, exp1, exp0, ren0, HIdF]) rfl
theorem zar : zd Try.prog 72 zb9 := by
 refine jH (fn := Try.f72) (c := Try.f72.body.getD .skip) rfl rfl rfl (fun h => by cases h) fun p hp O w0 σ0 Q hl0 hq => ?_
 obtain ⟨⟨a, v, d, x⟩, ⟨b, u, e, y⟩⟩ := p
 replace hq := hq _ rfl
 simp only at hq
 refine zc.run hmix Ui [] 400 (T := .ex (fun (x_1 : Ch × Ch) => eqL [AV.agg [AV.str a, AV.str v, AV.int .i64 d, AV.bool x], AV.agg [AV.str b, AV.str u, AV.int .i64 e, AV.bool y]] [AV.agg [AV.str x_1.1.zb, AV.str x_1.1.name, AV.int .i64 x_1.1.date, AV.bool x_1.1.first], AV.agg [AV.str x_1.2.zb, AV.str x_1.2.name, AV.int .i64 x_1.2.date, AV.bool x_1.2.first]] ∧ True) fun n => .all (fun (r : Int) => r = cmpC n.1 n.2) fun n => .leaf (.ret [.bool (decide (n = 0))] [.box [.fn 47 [] []], .box [.str b, .str u, .int .i64 e, .bool y], .box [.str a, .str v, .int .i64 d, .bool x]])) (by kernel_rfl) ?_
 simp only [Tree.holds, ze]
 refine ⟨(⟨a, v, d, x⟩, ⟨b, u, e, y⟩), ⟨by simp, trivial⟩, ⟨_, rfl⟩, ?_⟩
 rintro _ rfl
 exact RetR.keep [0, 1] rfl rfl (by show ∀ j, j < 2 → _; decide) rfl hq (by simp [resV, exp2, exp1, exp0, ren0, eqA2]) (by simp [expH, expB, exp1, exp0, ren0, HIdC]) rfl
def SIdF (l : List Fx) (i : Nat) : KV := [(0, fxS l), (1, .fn 71 [] [.ptr 0 0, .ptr 1 0]), (7, .int .i64 (l.length : Int)), (8, .int .i64 (i : Int))]
def SIdC (l : List Ch) (i : Nat) : KV := [(0, chS l), (1, .fn 72 [] [.ptr 0 0, .ptr 1 0]), (7, .int .i64 (l.length : Int)), (8, .int .i64 (i : Int))]
def YN : Ctr := ctrT false false (fun p : List Fx × Fx => [fxS p.1, .fn 71 [] [.ptr 0 0, .ptr 1 0]]) (fun p => HIdF p.2) (fun p => p.1.length < 2 ^ 40) (fun p r => r = idxB (fun x => decide (cmpF x p.2 = 0)) p.1) (fun p (r : Int) => (.int .i64 r, HIdF p.2))
def Ut : Ctr := ctrT false false (fun p : List Ch × Ch => [chS p.1, .fn 72 [] [.ptr 0 0, .ptr 1 0]]) (fun p => HIdC p.2) (fun p => p.1.length < 2 ^ 40) (fun p r => r = idxB (fun x => decide (cmpC x p.2 = 0)) p.1) (fun p (r : Int) => (.int .i64 r, HIdC p.2))
noncomputable def GI2 : Nat → Option Ctr := fun f => if f = 71 then some (zay) else if f = 72 then some (zb9) else none
theorem Jp : ∀ g c, GI2 g = some c → zd Try.prog g c := okIf za2 (okIf zar (zu))
theorem UX : zd Try.prog 66 YN := by
 refine jH (fn := Try.f66) (c := Try.f66.body.getD .skip) rfl rfl rfl (fun h => by cases h) fun p hl O w0 σ0 Q hl0 hq => ?_
 obtain ⟨l, x⟩ := p
 replace hq := hq _ rfl
 simp only at hq hl
 refine zc.run hmix Jp [0, 1, 7, 8] 400 (T := .leaf (.loop (Prod.fst (lps K66 0)) (Prod.snd (lps K66 0)) [(0, .sl l.length 3 (fxG l)), (1, .fn 71 [] [.ptr 0 0, .ptr 1 0]), (7, .int .i64 l.length), (8, .int .i64 0)] [.box [.fn 45 [] []], .box [.str x.name, .int .i64 x.date, .str x.value]])) (by kernel_rfl) ?_
 simp only [Tree.holds, ze]
 have fin : ∀ (i : Int) (h : Heap), i = idxB (fun y => decide (cmpF y x = 0)) l → h = HIdF x → RetR YN 2 Q [.int .i64 i] h := by
  intro i h hi2 hh
  subst hh
  rw [← hi2] at hq
  exact RetR.keep [0, 1] rfl rfl (by show ∀ j, j < 2 → _; decide) rfl hq (by simp [resV, exp2, exp1, exp0, ren0, eqA2]) (by simp [expH, expB, exp1, exp0, ren0, HIdF]) rfl
 refine zc.loop (ι := {i : Nat // i ≤ l.length ∧ ∀ j, j < i → decide (cmpF (l.getD j Fx.nil) x = 0) = false}) (fun i => SIdF l i.1) (fun _ => HIdF x) (fun i => l.length - i.1) ⟨0, Nat.zero_le _, fun j hj => by omega⟩ 0 ?_ ?_ (by kernel_rfl)
 ·exact ⟨by simp [SIdF, fxS, za], by simp [HIdF], by kernel_rfl, Nat.le_refl _⟩
 ·rintro ⟨i, hil, hib⟩
  refine zc.run hmix Jp [0, 1, 7, 8] 400 (T := .ite (decide ((↑i : Int) < l.length)) (.side ((0 : Int) ≤ i ∧ (↑i : Int) < l.length) (.ex (fun (x_1 : Fx × Fx) => eqL [AV.agg [AV.str (Fx.name (List.getD l (Int.toNat (↑i : Int)) Fx.nil)), AV.int .i64 (Fx.date (List.getD l (Int.toNat (↑i : Int)) Fx.nil)), AV.str (Fx.value (List.getD l (Int.toNat (↑i : Int)) Fx.nil))], AV.ptr 0 0, AV.ptr 1 0] [AV.agg [AV.str x_1.1.name, AV.int .i64 x_1.1.date, AV.str x_1.1.value], AV.ptr 0 0, AV.ptr 1 0] ∧ eqH [.box [AV.fn 45 [] []], .box [AV.str x.name, AV.int .i64 x.date, AV.str x.value]] [.box [AV.fn 45 [] []], .box [AV.str x_1.2.name, AV.int .i64 x_1.2.date, AV.str x_1.2.value]] ∧ 2 = 2 ∧ True) fun n => .all (fun (r : Bool) => r = decide (cmpF n.1 n.2 = 0)) fun n_1 => .ite n_1 (.leaf (.ret [.int .i64 i] [.box [.fn 45 [] []], .box [.str n.2.name, .int .i64 n.2.date, .str n.2.value]])) (.side (inR .i64 ((↑i : Int) + (1 : Int))) (.leaf (.back 0 [(0, .sl l.length 3 (fxG l)), (1, .fn 71 [] [.ptr 0 0, .ptr 1 0]), (7, .int .i64 l.length), (8, .int .i64 ((↑i : Int) + (1 : Int)))] [.box [.fn 45 [] []], .box [.str n.2.name, .int .i64 n.2.date, .str n.2.value]]))))) (.leaf (.ret [.int .i64 (-1 : Int)] [.box [.fn 45 [] []], .box [.str x.name, .int .i64 x.date, .str x.value]]))) (by kernel_rfl) ?_
  simp only [Tree.holds, ze, inR, lo, hi, Int.toNat_natCast]
  refine ⟨fun hlt => ?_, fun hge => ?_⟩
  ·have hlt : i < l.length := by have := of_decide_eq_true hlt; omega
   refine ⟨by omega, fun _ => ⟨(l.getD i Fx.nil, x), ⟨by simp, by simp, trivial, trivial⟩, ⟨_, rfl⟩, ?_⟩⟩
   rintro _ rfl
   refine ⟨fun h => ?_, fun h => ⟨by omega, fun _ => ?_⟩⟩
   ·exact fin _ _ (xL hlt h hib).symm rfl
   ·rw [if_pos trivial]
    refine ⟨⟨i + 1, hlt, fun j hj => ?_⟩, by show l.length - (i + 1) < l.length - i; omega, by simp [SIdF, fxS, za], by simp [HIdF], by kernel_rfl, Nat.le_refl _⟩
    rcases Nat.lt_or_ge j i with h1 | h1
    ·exact hib j h1
    ·have : j = i := by omega
     rw [this]; exact h
  ·have hge : i = l.length := by have := of_decide_eq_false hge; omega
   subst hge
   exact fin _ _ (vf (p := fun y => decide (cmpF y x = 0)) hib).symm rfl
theorem UG : zd Try.prog 67 Ut := by
 refine jH (fn := Try.f67) (c := Try.f67.body.getD .skip) rfl rfl rfl (fun h => by cases h) fun p hl O w0 σ0 Q hl0 hq => ?_
 obtain ⟨l, x⟩ := p
 replace hq := hq _ rfl
 simp only at hq hl
 refine zc.run hmix Jp [0, 1, 7, 8] 400 (T := .leaf (.loop (Prod.fst (lps K67 0)) (Prod.snd (lps K67 0)) [(0, .sl l.length 4 (chG l)), (1, .fn 72 [] [.ptr 0 0, .ptr 1 0]), (7, .int .i64 l.length), (8, .int .i64 0)] [.box [.fn 47 [] []], .box [.str x.zb, .str x.name, .int .i64 x.date, .bool x.first]])) (by kernel_rfl) ?_
 simp only [Tree.holds, ze]
 have fin : ∀ (i : Int) (h : Heap), i = idxB (fun y => decide (cmpC y x = 0)) l → h = HIdC x → RetR Ut 2 Q [.int .i64 i] h := by
  intro i h hi2 hh
  subst hh
  rw [← hi2] at hq
  exact RetR.keep [0, 1] rfl rfl (by show ∀ j, j < 2 → _; decide) rfl hq (by simp [resV, exp2, exp1, exp0, ren0, eqA2]) (by simp [expH, expB, exp1, exp0, ren0, HIdC]) rfl
 refine zc.loop (ι := {i : Nat // i ≤ l.length ∧ ∀ j, j < i → decide (cmpC (l.getD j Ch.nil) x = 0) = false}) (fun i => SIdC l i.1) (fun _ => HIdC x) (fun i => l.length - i.1) ⟨0, Nat.zero_le _, fun j hj => by omega⟩ 0 ?_ ?_ (by kernel_rfl)
 ·exact ⟨by simp [SIdC, chS, za], by simp [HIdC], by kernel_rfl, Nat.le_refl _⟩
 ·rintro ⟨i, hil, hib⟩
  refine zc.run hmix Jp [0, 1, 7, 8] 400 (T := .ite (decide ((↑i : Int) < l.length)) (.side ((0 : Int) ≤ i ∧ (↑i : Int) < l.length) (.ex (fun (x_1 : Ch × Ch) => eqL [AV.agg [AV.str (Ch.zb (List.getD l (Int.toNat (↑i : Int)) Ch.nil)), AV.str (Ch.name (List.getD l (Int.toNat (↑i : Int)) Ch.nil)), AV.int .i64 (Ch.date (List.getD l (Int.toNat (↑i : Int)) Ch.nil)), AV.bool (Ch.first (List.getD l (Int.toNat (↑i : Int)) Ch.nil))], AV.ptr 0 0, AV.ptr 1 0] [AV.agg [AV.str x_1.1.zb, AV.str x_1.1.name, AV.int .i64 x_1.1.date, AV.bool x_1.1.first], AV.ptr 0 0, AV.ptr 1 0] ∧ eqH [.box [AV.fn 47 [] []], .box [AV.str x.zb, AV.str x.name, AV.int .i64 x.date, AV.bool x.first]] [.box [AV.fn 47 [] []], .box [AV.str x_1.2.zb, AV.str x_1.2.name, AV.int .i64 x_1.2.date, AV.bool x_1.2.first]] ∧ 2 = 2 ∧ True) fun n => .all (fun (r : Bool) => r = decide (cmpC n.1 n.2 = 0)) fun n_1 => .ite n_1 (.leaf (.ret [.int .i64 i] [.box [.fn 47 [] []], .box [.str n.2.zb, .str n.2.name, .int .i64 n.2.date, .bool n.2.first]])) (.side (inR .i64 ((↑i : Int) + (1 : Int))) (.leaf (.back 0 [(0, .sl l.length 4 (chG l)), (1, .fn 72 [] [.ptr 0 0, .ptr 1 0]), (7, .int .i64 l.length), (8, .int .i64 ((↑i : Int) + (1 : Int)))] [.box [.fn 47 [] []], .box [.str n.2.zb, .str n.2.name, .int .i64 n.2.date, .bool n.2.first]]))))) (.leaf (.ret [.int .i64 (-1 : Int)] [.box [.fn 47 [] []], .box [.str x.zb, .str x.name, .int .i64 x.date, .bool x.first]]))) (by kernel_rfl) ?_
  simp only [Tree.holds, ze, inR, lo, hi, Int.toNat_natCast]
  refine ⟨fun hlt => ?_, fun hge => ?_⟩
  ·have hlt : i < l.length := by have := of_decide_eq_true hlt; omega
   refine ⟨by omega, fun _ => ⟨(l.getD i Ch.nil, x), ⟨by simp, by simp, trivial, trivial⟩, ⟨_, rfl⟩, ?_⟩⟩
   rintro _ rfl
   refine ⟨fun h => ?_, fun h => ⟨by omega, fun _ => ?_⟩⟩
   ·exact fin _ _ (xL hlt h hib).symm rfl
   ·rw [if_pos trivial]
    refine ⟨⟨i + 1, hlt, fun j hj => ?_⟩, by show l.length - (i + 1) < l.length - i; omega, by simp [SIdC, chS, za], by simp [HIdC], by kernel_rfl, Nat.le_refl _⟩
    rcases Nat.lt_or_ge j i with h1 | h1
    ·exact hib j h1
    ·have : j = i := by omega
     rw [this]; exact h
  ·have hge : i = l.length := by have := of_decide_eq_false hge; omega
   subst hge
   exact fin _ _ (vf (p := fun y => decide (cmpC y x = 0)) hib).symm rfl
def QY : Ctr := ctrP true (fun p : List Fx × Fx => [fxS p.1, p.2.av, .fn 45 [] []]) (fun p => p.1.length < 2 ^ 40) (fun p r => r = idxB (fun x => decide (cmpF x p.2 = 0)) p.1) (fun _ (r : Int) => (.int .i64 r, []))
def J1 : Ctr := ctrP true (fun p : List Ch × Ch => [chS p.1, p.2.av, .fn 47 [] []]) (fun p => p.1.length < 2 ^ 40) (fun p r => r = idxB (fun x => decide (cmpC x p.2 = 0)) p.1) (fun _ (r : Int) => (.int .i64 r, []))
noncomputable def GI3 : Nat → Option Ctr := fun f => if f = 66 then some (YN) else if f = 67 then some (Ut) else none
theorem YQ : ∀ g c, GI3 g = some c → zd Try.prog g c := okIf UX (okIf UG (zu))
theorem Qj : zd Try.prog 48 QY := by
 refine zm (fn := Try.f48) (c := Try.f48.body.getD .skip) rfl rfl rfl fun p hp O w0 Q hq => ?_
 obtain ⟨l, ⟨a, d, v⟩⟩ := p
 replace hq := hq _ rfl
 simp only at hq hp
 refine zc.run hmix YQ [] 400 (T := .ex (fun (x : List Fx × Fx) => eqL [AV.sl l.length 3 (fxG l), AV.fn 71 [] [AV.ptr 0 0, AV.ptr 1 0]] [AV.sl x.1.length 3 (fxG x.1), AV.fn 71 [] [AV.ptr 0 0, AV.ptr 1 0]] ∧ eqH [.box [AV.fn 45 [] []], .box [AV.str a, AV.int .i64 d, AV.str v]] [.box [AV.fn 45 [] []], .box [AV.str x.2.name, AV.int .i64 x.2.date, AV.str x.2.value]] ∧ 2 = 2 ∧ x.1.length < 1099511627776) fun n => .all (fun (r : Int) => r = idxB (fun (x : Fx) => decide (cmpF x n.2 = 0)) n.1) fun n_1 => .leaf (.ret [.int .i64 n_1] [.box [.str n.2.name, .int .i64 n.2.date, .str n.2.value], .box [.fn 45 [] []]])) (by kernel_rfl) ?_
 simp only [Tree.holds, ze]
 refine ⟨(l, ⟨a, d, v⟩), ⟨by simp [za], by simp, trivial, hp⟩, ⟨_, rfl⟩, ?_⟩
 rintro _ rfl
 exact RetR.scal hq rfl (by simp [resV])
theorem Qo : zd Try.prog 49 J1 := by
 refine zm (fn := Try.f49) (c := Try.f49.body.getD .skip) rfl rfl rfl fun p hp O w0 Q hq => ?_
 obtain ⟨l, ⟨a, v, d, b⟩⟩ := p
 replace hq := hq _ rfl
 simp only at hq hp
 refine zc.run hmix YQ [] 400 (T := .ex (fun (x : List Ch × Ch) => eqL [AV.sl l.length 4 (chG l), AV.fn 72 [] [AV.ptr 0 0, AV.ptr 1 0]] [AV.sl x.1.length 4 (chG x.1), AV.fn 72 [] [AV.ptr 0 0, AV.ptr 1 0]] ∧ eqH [.box [AV.fn 47 [] []], .box [AV.str a, AV.str v, AV.int .i64 d, AV.bool b]] [.box [AV.fn 47 [] []], .box [AV.str x.2.zb, AV.str x.2.name, AV.int .i64 x.2.date, AV.bool x.2.first]] ∧ 2 = 2 ∧ x.1.length < 1099511627776) fun n => .all (fun (r : Int) => r = idxB (fun (x : Ch) => decide (cmpC x n.2 = 0)) n.1) fun n_1 => .leaf (.ret [.int .i64 n_1] [.box [.str n.2.zb, .str n.2.name, .int .i64 n.2.date, .bool n.2.first], .box [.fn 47 [] []]])) (by kernel_rfl) ?_
 simp only [Tree.holds, ze]
 refine ⟨(l, ⟨a, v, d, b⟩), ⟨by simp [za], by simp, trivial, hp⟩, ⟨_, rfl⟩, ?_⟩
 rintro _ rfl
 exact RetR.scal hq rfl (by simp [resV])
noncomputable def GI4 : Nat → Option Ctr := fun f => if f = 48 then some (QY) else if f = 49 then some (J1) else none
theorem Y8 : ∀ g c, GI4 g = some c → zd Try.prog g c := okIf Qj (okIf Qo (zu))
theorem zai : zd Try.prog 23 zb2 := by
 refine zm (fn := Try.f23) (c := Try.f23.body.getD .skip) rfl rfl rfl fun p hp O w0 Q hq => ?_
 obtain ⟨⟨f, c⟩, ⟨a, d⟩⟩ := p
 replace hq := hq _ rfl
 simp only at hq hp
 refine zc.run hmix Y8 [] 400 (T := .ex (fun (x : List Fx × Fx) => eqL [AV.sl f.length 3 (fxG f), AV.agg [AV.str a, AV.int .i64 d, AV.str (Array.toList #[])], AV.fn 45 [] []] [AV.sl x.1.length 3 (fxG x.1), AV.agg [AV.str x.2.name, AV.int .i64 x.2.date, AV.str x.2.value], AV.fn 45 [] []] ∧ x.1.length < 1099511627776) fun n => .all (fun (r : Int) => r = idxB (fun (x : Fx) => decide (cmpF x n.2 = 0)) n.1) fun n => .ite (decide (n < 0)) (.leaf (.ret [.str (Array.toList #[]), .bool false] [.box [.sl f.length 3 (fxG f), .sl c.length 4 (chG c)]])) (.side ((0 : Int) ≤ n ∧ n < (↑f.length : Int)) (.leaf (.ret [.str (Fx.value (List.getD f (Int.toNat n) Fx.nil)), .bool true] [.box [.sl f.length 3 (fxG f), .sl c.length 4 (chG c)]])))) (by kernel_rfl) ?_
 simp only [Tree.holds, ze]
 refine ⟨(f, ⟨a, d, []⟩), ⟨by simp [za], hp⟩, ⟨_, rfl⟩, ?_⟩
 rintro _ rfl
 obtain ⟨hlt, hr⟩ := XR f a d
 simp only at hq ⊢
 refine ⟨fun h => ?_, fun h => ?_⟩
 ·rw [hr, if_neg (by have := of_decide_eq_true h; omega)] at hq
  exact RetR.scal hq rfl (by simp [resV])
 ·have h := of_decide_eq_false h
  refine ⟨⟨by omega, hlt⟩, fun _ => ?_⟩
  rw [hr, if_pos (by omega)] at hq
  exact RetR.scal hq rfl (by simp [resV])
theorem Xo : zd Try.prog 24 KE := by
 refine zm (fn := Try.f24) (c := Try.f24.body.getD .skip) rfl rfl rfl fun p hp O w0 Q hq => ?_
 obtain ⟨⟨f, c⟩, ⟨a, v, d⟩⟩ := p
 replace hq := hq _ rfl
 simp only at hq hp
 refine zc.run hmix Y8 [] 400 (T := .ex (fun (x : List Ch × Ch) => eqL [AV.sl c.length 4 (chG c), AV.agg [AV.str a, AV.str v, AV.int .i64 d, AV.bool false], AV.fn 47 [] []] [AV.sl x.1.length 4 (chG x.1), AV.agg [AV.str x.2.zb, AV.str x.2.name, AV.int .i64 x.2.date, AV.bool x.2.first], AV.fn 47 [] []] ∧ x.1.length < 1099511627776) fun n => .all (fun (r : Int) => r = idxB (fun (x : Ch) => decide (cmpC x n.2 = 0)) n.1) fun n => .side (decide ((0 : Int) ≤ n) = true → (0 : Int) ≤ n ∧ n < (↑c.length : Int)) (.leaf (.ret [.bool (bif decide ((0 : Int) ≤ n) then Ch.first (List.getD c (Int.toNat n) Ch.nil) else false)] [.box [.sl f.length 3 (fxG f), .sl c.length 4 (chG c)]]))) (by kernel_rfl) ?_
 simp only [Tree.holds, ze]
 refine ⟨(c, ⟨a, v, d, false⟩), ⟨by simp [za], hp⟩, ⟨_, rfl⟩, ?_⟩
 rintro _ rfl
 obtain ⟨hlt, hr⟩ := Vs c a v d
 simp only at hq ⊢
 refine ⟨fun h => ⟨of_decide_eq_true h, hlt⟩, fun _ => ?_⟩
 refine RetR.scal hq rfl ?_
 rw [hr]
 simp only [resV]
 by_cases h : 0 ≤ idxB (fun x => decide (cmpC x ⟨a, v, d, false⟩ = 0)) c
 ·rw [decide_eq_true h, if_pos h]; rfl
 ·rw [decide_eq_false h, if_neg h]; rfl
end Go.Proofs.Try
end

/- The library's insertion of one element, as a contract: from what its walk shows. -/
section
namespace Go.Sx
variable [Stat]
def Jz (P : Program) (g sz bytes : Nat) : Prop := ∀ (b off n c i vb voff vc : Nat) (cur vcur : Array Value) (el vel : TypeId) (w : World), i < n → n ≤ c → (n + 1) * bytes ≤ 140737488355328 → vb ≠ b →
 w.heap[b]? = some (.cells cur el (0, 0)) → w.heap[vb]? = some (.cells vcur vel (0, 0)) → off + c * sz ≤ cur.size → voff + sz ≤ vcur.size →
 (∀ (j : Nat) (v : Value), j < n * sz → cur[off + j]? = some v → v.oneCell' = true) → (∀ (j : Nat) (v : Value), j < sz → vcur[voff + j]? = some v → v.oneCell' = true) →
 Calls P g #[.slice (some ⟨b, off, none⟩) n c, .int .i64 i, .slice (some ⟨vb, voff, none⟩) 1 vc] w fun e w' => ∃ (b' o' c' : Nat) (cur' : Array Value) (el' : TypeId),
  e = .returned (.slice (some ⟨b', o', none⟩) (n + 1) c') ∧ n + 1 ≤ c' ∧ w'.heap[b']? = some (.cells cur' el' (0, 0)) ∧ o' + c' * sz ≤ cur'.size ∧
  (∀ j, j < (n + 1) * sz → cur'[o' + j]? = if j < i * sz then cur[off + j]? else if j < i * sz + sz then vcur[voff + (j - i * sz)]? else cur[off + (j - sz)]?) ∧
  (b' = b ∨ w.heap.size ≤ b') ∧ w.heap.size ≤ w'.heap.size ∧ (∀ k, k < w.heap.size → k ≠ b → w'.heap[k]? = w.heap[k]?) ∧ w'.os = w.os ∧ w'.tape = w.tape ∧ w'.output = w.output
def insG (i : Nat) (gl gv : Nat → Nat → AV) : Nat → Nat → AV := fun j o => if j < i then gl j o else if j = i then gv 0 o else gl (j - 1) o
theorem ZR {a b sz o : Nat} (h : a < b) (ho : o < sz) : a * sz + o < b * sz := by
 have : (a + 1) * sz ≤ b * sz := Nat.mul_le_mul_right _ h
 rw [Nat.succ_mul] at this; omega
theorem Kh {P : Program} {g : Nat} {fn : Func} {c : Code} (hf : P.funcs[g]? = some fn) (hb : fn.body = some c) (hn : (fn.name == "runtime.NumGoroutine") = false) {sz bytes : Nat} (hsz : 0 < sz) (W : Jz P g sz bytes)
  {gl gv gt : Nat → Nat → AV} {n i : Nat} (hi : i < n) (hbig : (n + 1) * bytes ≤ 140737488355328) (hgt : eqG (n + 1) sz (insG i gl gv) gt) {ctr : Ctr} (hfr : ctr.fresh = false) (hmv : ctr.wa = true) (hpi : ctr.pins = 0) {Q : AV × Heap → Prop}
  (hq : Q (.osl 0 sz 0 (n + 1), [.arr (n + 1) sz gt, .dead])) : qh P g ctr [.osl 0 sz 0 n, .int .i64 i, .osl 1 sz 0 1] [.arr n sz gl, .arr 1 sz gv] Q := by
 intro O w σ vals hg hh hr
 simp only [RepL] at hr
 obtain ⟨v0, r0, rfl, h0, v1, r1, rfl, h1, v2, r2, rfl, h2, rfl⟩ := hr
 simp only [Rep] at h0 h1 h2
 subst h1
 obtain ⟨e0, he0, hl0, a0, cap, rfl, hnc, hr0⟩ := h0
 obtain ⟨e1, he1, hl1, a1, vc, rfl, hvc, hr1⟩ := h2
 rcases hr0 with hr0 | ⟨ad, had, rfl, cur, el, hcur, hsize⟩
 ·omega
 rcases hr1 with hr1 | ⟨vd, hvd, rfl, vcur, vel, hvcur, hvsize⟩
 ·omega
 obtain ⟨hen0, hz0 | ⟨ad', cs0, el0, had', hcs0, hs0, hc0⟩⟩ := hh.blk 0 e0 _ he0 rfl
 ·omega
 rw [had] at had'; cases had'
 rw [hcur] at hcs0; cases hcs0
 obtain ⟨hen1, hz1 | ⟨vd', cs1, el1, hvd', hcs1, hs1, hc1⟩⟩ := hh.blk 1 e1 _ he1 rfl
 ·omega
 rw [hvd] at hvd'; cases hvd'
 rw [hvcur] at hcs1; cases hcs1
 have hne : vd.block ≠ ad.block := fun h => hh.inj 0 1 e0 e1 ad vd he0 he1 had hvd (by decide) h.symm
 have hmb : Mine σ ad.block := ⟨e0, List.mem_of_getElem? he0, ad, had, rfl⟩
 have hbw : ad.block < w.heap.size := hh.lt 0 e0 ad he0 had
 simp only [Nat.zero_mul, Nat.add_zero, Nat.zero_add] at hsize hvsize ⊢
 have hn' : ¬ fn.name = "runtime.NumGoroutine" := by simpa using hn
 left
 refine ⟨by simp [callFunc, hf, hn', hb], ?_⟩
 have hvfit : vd.off + sz ≤ vcur.size := by simpa using hs1
 refine (W ad.block ad.off n cap i vd.block vd.off vc cur vcur el vel w hi hnc hbig hne hcur hvcur hsize hvfit ?_ ?_).mono ?_
 ·intro j v hj hv
  have ho : j % sz < sz := Nat.mod_lt _ hsz
  have hjn : j / sz < n := Nat.div_lt_of_lt_mul (by rw [Nat.mul_comm]; exact hj)
  obtain ⟨c, g1, g2, _⟩ := hc0 (j / sz) (j % sz) hjn ho
  have : j / sz * sz + j % sz = j := by rw [Nat.mul_comm]; exact Nat.div_add_mod j sz
  rw [this, hv] at g1
  cases g1; exact g2
 ·intro j v hj hv
  obtain ⟨c, g1, g2, _⟩ := hc1 0 j (by decide) hj
  rw [Nat.zero_mul, Nat.zero_add, hv] at g1
  cases g1; exact g2
 rintro e w' ⟨b', o', c', cur', el', rfl, hc', hcur', hsz', hel, hb', hws, hkeep, hos, htape, hout⟩
 refine ⟨_, rfl, .osl 0 sz 0 (n + 1), [.arr (n + 1) sz gt, .dead], [⟨some ⟨b', o', none⟩, n + 1⟩, ⟨none, 0⟩], hq, ?_⟩
 have hlt' : b' < w'.heap.size := (Array.getElem?_eq_some_iff.1 hcur').1
 have hmine : ∀ b, Mine [⟨some ⟨b', o', none⟩, n + 1⟩, ⟨none, 0⟩] b → b = b' := by
  rintro b ⟨e, he, ad2, h1, h2⟩
  simp only [List.mem_cons, List.not_mem_nil, or_false] at he
  rcases he with rfl | rfl
  ·cases h1; exact h2.symm
  ·cases h1
 have hown : ∀ b, Own O [⟨some ⟨b', o', none⟩, n + 1⟩, ⟨none, 0⟩] b → O b ∨ b = b' := fun b hb => hb.imp id fun h => hmine b h
 have hx : Ext (Own O σ) w (fun b => Own O [⟨some ⟨b', o', none⟩, n + 1⟩, ⟨none, 0⟩] b ∨ (ctr.fresh = true ∧ b < w.heap.size)) w' := by
  refine ⟨hos, htape, hout, hws, fun b hb hno => hkeep b hb fun h => hno (.inr (h ▸ hmb)), fun b hb => ?_⟩
  rcases hb with hb | ⟨hb, _⟩
  ·rcases hown b hb with hb | rfl
   ·exact .inl (.inl hb)
   ·rcases hb' with rfl | hb'
    ·exact .inl (.inr hmb)
    ·exact .inr hb'
  ·rw [hfr] at hb; cases hb
 refine ⟨?_, ⟨rfl, ?_, ?_, ?_⟩, ⟨fun b hb => Nat.lt_of_lt_of_le (hg.old b hb) hws, ?_, hg.stat.ext ⟨hx.os, hx.tape, hx.output, hx.size, hx.keep, fun b hb => hx.grow b (.inl hb)⟩⟩, Nat.le_refl _, ?_, ⟨hos, htape, hout, hws, fun b hb hno => hkeep b hb fun h => hno (h ▸ hmb), fun b hb => ?_⟩⟩
 ·simp only [Rep]
  exact ⟨⟨some ⟨b', o', none⟩, n + 1⟩, rfl, by simp, some ⟨b', o', none⟩, c', rfl, hc', .inr ⟨⟨b', o', none⟩, rfl, by simp, cur', el', hcur', by simpa using hsz'⟩⟩
 ·intro i j e f a b he hf ha hb hij
  match i, j with
  | 0, 0 => exact absurd rfl hij
  | 0, 1 => simp at hf; subst hf; cases hb
  | 1, _ => simp at he; subst he; cases ha
  | 0, j + 2 => simp at hf
  | i + 2, _ => simp at he
 ·intro i e a he ha
  match i with
  | 0 => simp at he; subst he; cases ha; exact hlt'
  | 1 => simp at he; subst he; cases ha
  | i + 2 => simp at he
 ·intro k e b he hb
  match k with
  | 0 =>
   simp at he hb; subst he; subst hb
   refine ⟨rfl, .inr ⟨_, cur', el', rfl, hcur', ?_, fun j o hj ho => ?_⟩⟩
   ·have : (n + 1) * sz ≤ c' * sz := Nat.mul_le_mul_right _ hc'
    simp only; omega
   ·have hlt := ZR hj ho
    have he := hel (j * sz + o) hlt
    have hg2 := hgt j o hj ho
    simp only
    rw [he, ← hg2]
    simp only [insG]
    by_cases h1 : j < i
    ·rw [if_pos (ZR h1 ho), if_pos h1]
     obtain ⟨c, g1, g2, g3⟩ := hc0 j o (by omega) ho
     exact ⟨c, g1, g2, zi hx _ _ g3⟩
    ·have h2 : ¬ j * sz + o < i * sz := by
      have : i * sz ≤ j * sz := Nat.mul_le_mul_right _ (by omega)
      omega
     rw [if_neg h2, if_neg h1]
     by_cases h3 : j = i
     ·subst h3
      rw [if_pos (by omega), if_pos rfl]
      obtain ⟨c, g1, g2, g3⟩ := hc1 0 o (by decide) ho
      refine ⟨c, ?_, g2, zi hx _ _ g3⟩
      rw [← g1]; congr 1; omega
     ·have h4 : (i + 1) * sz ≤ j * sz := Nat.mul_le_mul_right _ (by omega)
      rw [Nat.succ_mul] at h4
      rw [if_neg (by omega), if_neg h3]
      obtain ⟨c, g1, g2, g3⟩ := hc0 (j - 1) o (by omega) ho
      refine ⟨c, ?_, g2, zi hx _ _ g3⟩
      rw [← g1]; congr 1
      have : (j - 1) * sz + sz = j * sz := by rw [← Nat.succ_mul]; congr 1; omega
      omega
  | 1 => simp at hb; subst hb; trivial
  | k + 2 => simp at he
 ·intro k e ad2 he had2
  match k with
  | 0 =>
   simp at he; subst he; cases had2
   simp only
   rcases hb' with rfl | hb'
   ·exact hg.dis 0 e0 ad he0 had
   ·intro hO; have := hg.old _ hO; omega
  | 1 => simp at he; subst he; cases had2
  | k + 2 => simp at he
 ·rw [hmv, hpi]
  intro k e he hk
  simp only [if_true, List.drop_zero, List.mem_range] at hk
  have hlt := (List.getElem?_eq_some_iff.1 he).1
  have hl := hh.len
  simp at hl hk
  omega
 ·rcases hmine b hb with rfl
  rcases hb' with rfl | hb'
  ·exact .inl hmb
  ·exact .inr hb'
end Go.Sx
end

/- What is known: the library's insertion, by its walk. -/
section
set_option maxRecDepth 100000
open Go Go.Sx Go.Proofs Go.Nov
namespace Go.Proofs.Try
attribute [local simp] eqKV eqA eqA0 eqH eqB eqL eqL0
theorem qK {α : Type} {l m : List α} {a : Nat} (h : a + m.length ≤ l.length) (k : Nat) : (l.take a ++ m ++ l.drop (a + m.length))[k]? = if k < a then l[k]? else if k < a + m.length then m[k - a]? else l[k]? := by
 have hl : (l.take a).length = a := by rw [List.length_take]; omega
 rw [List.getElem?_append, List.getElem?_append, hl]
 simp only [List.length_append, hl]
 by_cases h1 : k < a
 ·rw [if_pos (by omega), if_pos h1, if_pos h1, List.getElem?_take, if_pos h1]
 ·rw [if_neg h1, if_neg h1]
  by_cases h2 : k < a + m.length
  ·rw [if_pos h2, if_pos h2]
  ·rw [if_neg h2, if_neg h2, List.getElem?_drop]; congr 1; omega
theorem qy {l : List Value} {o k j : Nat} : ((l.drop o).take k)[j]? = if j < k then l[o + j]? else none := by
 rw [List.getElem?_take]
 split
 ·rw [List.getElem?_drop]
 ·rfl
theorem Xb : Jz Try.prog 91 3 40 := by
 intro b off n c i vb voff vc cur vcur el vel w hi hnc hbig hne hB hV hfit hvfit h1 h2
 have hcl : ((cur.toList.drop off).take (n * 3)).length = n * 3 := by
  have : n * 3 ≤ c * 3 := Nat.mul_le_mul_right _ hnc
  simp; omega
 have hvl : ((vcur.toList.drop voff).take 3).length = 3 := by simp; omega
 have hcs : ∀ j v, ((cur.toList.drop off).take (n * 3))[j]? = some v → w.cell? ⟨b, off + j, none⟩ = some v := fun j v hj => by
  rw [qy] at hj
  split at hj
  ·simp only [World.cell?, hB]; simpa using hj
  ·cases hj
 have hvs : ∀ j v, ((vcur.toList.drop voff).take 3)[j]? = some v → w.cell? ⟨vb, voff + j, none⟩ = some v := fun j v hj => by
  rw [qy] at hj
  split at hj
  ·simp only [World.cell?, hV]; simpa using hj
  ·cases hj
 have h1c : ∀ v ∈ (cur.toList.drop off).take (n * 3), v.oneCell' = true := fun v hv => by
  obtain ⟨j, hj⟩ := List.getElem?_of_mem hv
  rw [qy] at hj
  split at hj
  ·rename_i hlt; exact h1 j v hlt (by simpa using hj)
  ·cases hj
 have h1v : ∀ v ∈ (vcur.toList.drop voff).take 3, v.oneCell' = true := fun v hv => by
  obtain ⟨j, hj⟩ := List.getElem?_of_mem hv
  rw [qy] at hj
  split at hj
  ·rename_i hlt; exact h2 j v hlt (by simpa using hj)
  ·cases hj
 have hcg : ∀ j, j < n * 3 → ((cur.toList.drop off).take (n * 3))[j]? = cur[off + j]? := fun j hj => by rw [qy, if_pos hj]; simp
 have hvg : ∀ j, j < 3 → ((vcur.toList.drop voff).take 3)[j]? = vcur[voff + j]? := fun j hj => by rw [qy, if_pos hj]; simp
 generalize (cur.toList.drop off).take (n * 3) = cs at hcl hcs h1c hcg
 generalize (vcur.toList.drop voff).take 3 = vs at hvl hvs h1v hvg
 have hin3 : i * 3 + 3 ≤ n * 3 := by have := Nat.mul_le_mul_right 3 (show i + 1 ≤ n from hi); omega
 have hdl : (cs.drop (i * 3)).length = n * 3 - i * 3 := by rw [List.length_drop, hcl]
 have hbw : b < w.heap.size := (Array.getElem?_eq_some_iff.1 hB).1
 by_cases hroom : n + 1 ≤ c
 ·have hcn : (n + 1) * 3 ≤ c * 3 := Nat.mul_le_mul_right _ hroom
  obtain ⟨X1, hX1⟩ : ∃ X1, X1 = cur.toList.take (off + (i + 1) * 3) ++ cs.drop (i * 3) ++ cur.toList.drop (off + (i + 1) * 3 + (cs.drop (i * 3)).length) := ⟨_, rfl⟩
  obtain ⟨X2, hX2⟩ : ∃ X2, X2 = X1.take (off + i * 3) ++ vs ++ X1.drop (off + i * 3 + vs.length) := ⟨_, rfl⟩
  have hX1l : X1.length = cur.size := by rw [hX1]; simp only [List.length_append, List.length_take, List.length_drop, Array.length_toList, hdl, hcl]; omega
  have hX2l : X2.length = cur.size := by rw [hX2]; simp only [List.length_append, List.length_take, List.length_drop, hX1l, hvl]; omega
  have g1 : ∀ k : Nat, X1[k]? = (if k < off + (i + 1) * 3 then cur.toList[k]? else if k < off + (i + 1) * 3 + (cs.drop (i * 3)).length then (cs.drop (i * 3))[k - (off + (i + 1) * 3)]? else cur.toList[k]?) := fun k => by rw [hX1]; exact qK (by simp only [Array.length_toList, hdl]; omega) k
  have g2 : ∀ k : Nat, X2[k]? = (if k < off + i * 3 then X1[k]? else if k < off + i * 3 + (vs).length then (vs)[k - (off + i * 3)]? else X1[k]?) := fun k => by rw [hX2]; exact qK (by rw [hX1l, hvl]; omega) k
  refine (Vm b off n c i vb voff vc cur vcur el vel cs vs w hi hroom (by omega) hne hB hV hfit hcl hvl hcs hvs h1c h1v X1 X2 hX1 hX2).mono ?_
  rintro e w' ⟨he, hh, hos, htape, hout⟩
  refine ⟨b, off, c, X2.toArray, el, he, hroom, ?_, by simp only [List.size_toArray, hX2l]; omega, ?_, .inl rfl, ?_, ?_, hos, htape, hout⟩
  ·rw [hh]; exact setRow_heap _ b _ _ el _ (setRow_heap w b cur _ el _ hB)
  ·intro j hj
   simp only [List.getElem?_toArray, g2, g1, hvl, hdl]
   by_cases k1 : j < i * 3
   ·rw [if_pos (by omega), if_pos (by omega), if_pos k1]; simp
   ·rw [if_neg (by omega), if_neg k1]
    by_cases k2 : j < i * 3 + 3
    ·rw [if_pos (by omega), if_pos k2, show off + j - (off + i * 3) = j - i * 3 by omega, hvg _ (by omega)]
    ·rw [if_neg (by omega), if_neg k2, if_neg (by omega), if_pos (by omega), List.getElem?_drop, hcg _ (by omega)]; congr 1; omega
  ·rw [hh]; simp
  ·intro k hk hkb
   rw [hh, setRow_other _ b k _ hkb, setRow_other _ b k _ hkb]
 ·have hc1 : c < n + 1 := by omega
  obtain ⟨G, hG⟩ : ∃ G, G = grownCap w (n + 1) c 46 := ⟨_, rfl⟩
  have hGn : n + 1 ≤ G := by rw [hG]; exact grownCap_ge w _ _ _
  obtain ⟨zs, hz⟩ : ∃ zs : List Value, Builtin.zeroCells (Value.agg #[.string ⟨#[]⟩, .int .i64 0, .string ⟨#[]⟩]).cells (n + 1 - i) = zs.toArray := ⟨_, (Array.toArray_toList).symm⟩
  obtain ⟨rest, hrest⟩ : ∃ zs : List Value, Builtin.zeroCells (Value.agg #[.string ⟨#[]⟩, .int .i64 0, .string ⟨#[]⟩]).cells (G - (n + 1)) = zs.toArray := ⟨_, (Array.toArray_toList).symm⟩
  have hzl : zs.length = (n + 1 - i) * 3 := by
   have := congrArg Array.size hz
   simpa [Builtin.zeroCells, Value.cells] using this.symm
  have hrl : rest.length = (G - (n + 1)) * 3 := by
   have := congrArg Array.size hrest
   simpa [Builtin.zeroCells, Value.cells] using this.symm
  obtain ⟨ROW, hROW⟩ : ∃ ROW, ROW = cs.take (i * 3) ++ zs ++ rest := ⟨_, rfl⟩
  obtain ⟨X1, hX1⟩ : ∃ X1, X1 = ROW.take (i * 3) ++ vs ++ ROW.drop (i * 3 + vs.length) := ⟨_, rfl⟩
  obtain ⟨X2, hX2⟩ : ∃ X2, X2 = X1.take ((i + 1) * 3) ++ cs.drop (i * 3) ++ X1.drop ((i + 1) * 3 + (cs.drop (i * 3)).length) := ⟨_, rfl⟩
  have hsum : (n + 1) * 3 + (G - (n + 1)) * 3 = G * 3 := by rw [← Nat.add_mul]; congr 1; omega
  have hsum2 : i * 3 + (n + 1 - i) * 3 = (n + 1) * 3 := by rw [← Nat.add_mul]; congr 1; omega
  have hROWl : ROW.length = G * 3 := by
   rw [hROW]; simp only [List.length_append, List.length_take, hcl, hzl, hrl]; omega
  have hX1l : X1.length = G * 3 := by rw [hX1]; simp only [List.length_append, List.length_take, List.length_drop, hROWl, hvl]; omega
  have hX2l : X2.length = G * 3 := by rw [hX2]; simp only [List.length_append, List.length_take, List.length_drop, hX1l, hdl, hcl]; omega
  have g1 : ∀ k : Nat, X1[k]? = (if k < i * 3 then ROW[k]? else if k < i * 3 + (vs).length then (vs)[k - (i * 3)]? else ROW[k]?) := fun k => by rw [hX1]; exact qK (by rw [hROWl, hvl]; omega) k
  have g2 : ∀ k : Nat, X2[k]? = (if k < (i + 1) * 3 then X1[k]? else if k < (i + 1) * 3 + (cs.drop (i * 3)).length then (cs.drop (i * 3))[k - ((i + 1) * 3)]? else X1[k]?) := fun k => by rw [hX2]; exact qK (by rw [hX1l, hdl]; omega) k
  have g0 : ∀ k, k < i * 3 → ROW[k]? = cs[k]? := fun k hk => by
   rw [hROW, List.append_assoc, List.getElem?_append_left (by rw [List.length_take]; omega), List.getElem?_take, if_pos hk]
  refine (Xr b off n c i vb voff vc cur vcur el vel cs vs w hi hnc hc1 hbig hB hV hcl hvl hcs hvs h1c h1v zs hz G hG rest hrest ROW X1 X2 hROW hX1 hX2).mono ?_
  rintro e w' ⟨he, hh, hos, htape, hout⟩
  refine ⟨w.heap.size, 0, G, X2.toArray, 46, he, hGn, ?_, by simp only [List.size_toArray, hX2l]; omega, ?_, .inr (Nat.le_refl _), ?_, ?_, hos, htape, hout⟩
  ·rw [hh]
   exact setRow_heap _ w.heap.size _ _ _ _ (setRow_heap _ w.heap.size _ _ _ _ (show ((w.heap.push _))[w.heap.size]? = some (.cells ROW.toArray 46 (0, 0)) from Array.getElem?_push_size))
  ·intro j hj
   simp only [List.getElem?_toArray, Nat.zero_add, g2, g1, hvl, hdl]
   by_cases k1 : j < i * 3
   ·rw [if_pos (by omega), if_pos k1, if_pos k1, g0 j k1, hcg j (by omega)]
   ·simp only [if_neg k1]
    by_cases k2 : j < i * 3 + 3
    ·rw [if_pos (by omega)]
     simp only [if_pos k2]
     exact hvg _ (by omega)
    ·simp only [if_neg k2]
     rw [if_neg (by omega), if_pos (by omega), List.getElem?_drop, hcg _ (by omega)]; congr 1; omega
  ·rw [hh, setRow_size, setRow_size]
   show _ ≤ (w.heap.push _).size
   rw [Array.size_push]; omega
  ·intro k hk hkb
   rw [hh, setRow_other _ _ k _ (by omega), setRow_other _ _ k _ (by omega)]
   show (w.heap.push _)[k]? = _
   rw [Array.getElem?_push, if_neg (by omega)]
theorem Xw : Jz Try.prog 92 4 48 := by
 intro b off n c i vb voff vc cur vcur el vel w hi hnc hbig hne hB hV hfit hvfit h1 h2
 have hcl : ((cur.toList.drop off).take (n * 4)).length = n * 4 := by
  have : n * 4 ≤ c * 4 := Nat.mul_le_mul_right _ hnc
  simp; omega
 have hvl : ((vcur.toList.drop voff).take 4).length = 4 := by simp; omega
 have hcs : ∀ j v, ((cur.toList.drop off).take (n * 4))[j]? = some v → w.cell? ⟨b, off + j, none⟩ = some v := fun j v hj => by
  rw [qy] at hj
  split at hj
  ·simp only [World.cell?, hB]; simpa using hj
  ·cases hj
 have hvs : ∀ j v, ((vcur.toList.drop voff).take 4)[j]? = some v → w.cell? ⟨vb, voff + j, none⟩ = some v := fun j v hj => by
  rw [qy] at hj
  split at hj
  ·simp only [World.cell?, hV]; simpa using hj
  ·cases hj
 have h1c : ∀ v ∈ (cur.toList.drop off).take (n * 4), v.oneCell' = true := fun v hv => by
  obtain ⟨j, hj⟩ := List.getElem?_of_mem hv
  rw [qy] at hj
  split at hj
  ·rename_i hlt; exact h1 j v hlt (by simpa using hj)
  ·cases hj
 have h1v : ∀ v ∈ (vcur.toList.drop voff).take 4, v.oneCell' = true := fun v hv => by
  obtain ⟨j, hj⟩ := List.getElem?_of_mem hv
  rw [qy] at hj
  split at hj
  ·rename_i hlt; exact h2 j v hlt (by simpa using hj)
  ·cases hj
 have hcg : ∀ j, j < n * 4 → ((cur.toList.drop off).take (n * 4))[j]? = cur[off + j]? := fun j hj => by rw [qy, if_pos hj]; simp
 have hvg : ∀ j, j < 4 → ((vcur.toList.drop voff).take 4)[j]? = vcur[voff + j]? := fun j hj => by rw [qy, if_pos hj]; simp
 generalize (cur.toList.drop off).take (n * 4) = cs at hcl hcs h1c hcg
 generalize (vcur.toList.drop voff).take 4 = vs at hvl hvs h1v hvg
 have hin3 : i * 4 + 4 ≤ n * 4 := by have := Nat.mul_le_mul_right 4 (show i + 1 ≤ n from hi); omega
 have hdl : (cs.drop (i * 4)).length = n * 4 - i * 4 := by rw [List.length_drop, hcl]
 have hbw : b < w.heap.size := (Array.getElem?_eq_some_iff.1 hB).1
 by_cases hroom : n + 1 ≤ c
 ·have hcn : (n + 1) * 4 ≤ c * 4 := Nat.mul_le_mul_right _ hroom
  obtain ⟨X1, hX1⟩ : ∃ X1, X1 = cur.toList.take (off + (i + 1) * 4) ++ cs.drop (i * 4) ++ cur.toList.drop (off + (i + 1) * 4 + (cs.drop (i * 4)).length) := ⟨_, rfl⟩
  obtain ⟨X2, hX2⟩ : ∃ X2, X2 = X1.take (off + i * 4) ++ vs ++ X1.drop (off + i * 4 + vs.length) := ⟨_, rfl⟩
  have hX1l : X1.length = cur.size := by rw [hX1]; simp only [List.length_append, List.length_take, List.length_drop, Array.length_toList, hdl, hcl]; omega
  have hX2l : X2.length = cur.size := by rw [hX2]; simp only [List.length_append, List.length_take, List.length_drop, hX1l, hvl]; omega
  have g1 : ∀ k : Nat, X1[k]? = (if k < off + (i + 1) * 4 then cur.toList[k]? else if k < off + (i + 1) * 4 + (cs.drop (i * 4)).length then (cs.drop (i * 4))[k - (off + (i + 1) * 4)]? else cur.toList[k]?) := fun k => by rw [hX1]; exact qK (by simp only [Array.length_toList, hdl]; omega) k
  have g2 : ∀ k : Nat, X2[k]? = (if k < off + i * 4 then X1[k]? else if k < off + i * 4 + (vs).length then (vs)[k - (off + i * 4)]? else X1[k]?) := fun k => by rw [hX2]; exact qK (by rw [hX1l, hvl]; omega) k
  refine (VL b off n c i vb voff vc cur vcur el vel cs vs w hi hroom (by omega) hne hB hV hfit hcl hvl hcs hvs h1c h1v X1 X2 hX1 hX2).mono ?_
  rintro e w' ⟨he, hh, hos, htape, hout⟩
  refine ⟨b, off, c, X2.toArray, el, he, hroom, ?_, by simp only [List.size_toArray, hX2l]; omega, ?_, .inl rfl, ?_, ?_, hos, htape, hout⟩
  ·rw [hh]; exact setRow_heap _ b _ _ el _ (setRow_heap w b cur _ el _ hB)
  ·intro j hj
   simp only [List.getElem?_toArray, g2, g1, hvl, hdl]
   by_cases k1 : j < i * 4
   ·rw [if_pos (by omega), if_pos (by omega), if_pos k1]; simp
   ·rw [if_neg (by omega), if_neg k1]
    by_cases k2 : j < i * 4 + 4
    ·rw [if_pos (by omega), if_pos k2, show off + j - (off + i * 4) = j - i * 4 by omega, hvg _ (by omega)]
    ·rw [if_neg (by omega), if_neg k2, if_neg (by omega), if_pos (by omega), List.getElem?_drop, hcg _ (by omega)]; congr 1; omega
  ·rw [hh]; simp
  ·intro k hk hkb
   rw [hh, setRow_other _ b k _ hkb, setRow_other _ b k _ hkb]
 ·have hc1 : c < n + 1 := by omega
  obtain ⟨G, hG⟩ : ∃ G, G = grownCap w (n + 1) c 48 := ⟨_, rfl⟩
  have hGn : n + 1 ≤ G := by rw [hG]; exact grownCap_ge w _ _ _
  obtain ⟨zs, hz⟩ : ∃ zs : List Value, Builtin.zeroCells (Value.agg #[.string ⟨#[]⟩, .string ⟨#[]⟩, .int .i64 0, .bool false]).cells (n + 1 - i) = zs.toArray := ⟨_, (Array.toArray_toList).symm⟩
  obtain ⟨rest, hrest⟩ : ∃ zs : List Value, Builtin.zeroCells (Value.agg #[.string ⟨#[]⟩, .string ⟨#[]⟩, .int .i64 0, .bool false]).cells (G - (n + 1)) = zs.toArray := ⟨_, (Array.toArray_toList).symm⟩
  have hzl : zs.length = (n + 1 - i) * 4 := by
   have := congrArg Array.size hz
   simpa [Builtin.zeroCells, Value.cells] using this.symm
  have hrl : rest.length = (G - (n + 1)) * 4 := by
   have := congrArg Array.size hrest
   simpa [Builtin.zeroCells, Value.cells] using this.symm
  obtain ⟨ROW, hROW⟩ : ∃ ROW, ROW = cs.take (i * 4) ++ zs ++ rest := ⟨_, rfl⟩
  obtain ⟨X1, hX1⟩ : ∃ X1, X1 = ROW.take (i * 4) ++ vs ++ ROW.drop (i * 4 + vs.length) := ⟨_, rfl⟩
  obtain ⟨X2, hX2⟩ : ∃ X2, X2 = X1.take ((i + 1) * 4) ++ cs.drop (i * 4) ++ X1.drop ((i + 1) * 4 + (cs.drop (i * 4)).length) := ⟨_, rfl⟩
  have hsum : (n + 1) * 4 + (G - (n + 1)) * 4 = G * 4 := by rw [← Nat.add_mul]; congr 1; omega
  have hsum2 : i * 4 + (n + 1 - i) * 4 = (n + 1) * 4 := by rw [← Nat.add_mul]; congr 1; omega
  have hROWl : ROW.length = G * 4 := by
   rw [hROW]; simp only [List.length_append, List.length_take, hcl, hzl, hrl]; omega
  have hX1l : X1.length = G * 4 := by rw [hX1]; simp only [List.length_append, List.length_take, List.length_drop, hROWl, hvl]; omega
  have hX2l : X2.length = G * 4 := by rw [hX2]; simp only [List.length_append, List.length_take, List.length_drop, hX1l, hdl, hcl]; omega
  have g1 : ∀ k : Nat, X1[k]? = (if k < i * 4 then ROW[k]? else if k < i * 4 + (vs).length then (vs)[k - (i * 4)]? else ROW[k]?) := fun k => by rw [hX1]; exact qK (by rw [hROWl, hvl]; omega) k
  have g2 : ∀ k : Nat, X2[k]? = (if k < (i + 1) * 4 then X1[k]? else if k < (i + 1) * 4 + (cs.drop (i * 4)).length then (cs.drop (i * 4))[k - ((i + 1) * 4)]? else X1[k]?) := fun k => by rw [hX2]; exact qK (by rw [hX1l, hdl]; omega) k
  have g0 : ∀ k, k < i * 4 → ROW[k]? = cs[k]? := fun k hk => by
   rw [hROW, List.append_assoc, List.getElem?_append_left (by rw [List.length_take]; omega), List.getElem?_take, if_pos hk]
  refine (Xy b off n c i vb voff vc cur vcur el vel cs vs w hi hnc hc1 hbig hB hV hcl hvl hcs hvs h1c h1v zs hz G hG rest hrest ROW X1 X2 hROW hX1 hX2).mono ?_
  rintro e w' ⟨he, hh, hos, htape, hout⟩
  refine ⟨w.heap.size, 0, G, X2.toArray, 48, he, hGn, ?_, by simp only [List.size_toArray, hX2l]; omega, ?_, .inr (Nat.le_refl _), ?_, ?_, hos, htape, hout⟩
  ·rw [hh]
   exact setRow_heap _ w.heap.size _ _ _ _ (setRow_heap _ w.heap.size _ _ _ _ (show ((w.heap.push _))[w.heap.size]? = some (.cells ROW.toArray 48 (0, 0)) from Array.getElem?_push_size))
  ·intro j hj
   simp only [List.getElem?_toArray, Nat.zero_add, g2, g1, hvl, hdl]
   by_cases k1 : j < i * 4
   ·rw [if_pos (by omega), if_pos k1, if_pos k1, g0 j k1, hcg j (by omega)]
   ·simp only [if_neg k1]
    by_cases k2 : j < i * 4 + 4
    ·rw [if_pos (by omega)]
     simp only [if_pos k2]
     exact hvg _ (by omega)
    ·simp only [if_neg k2]
     rw [if_neg (by omega), if_pos (by omega), List.getElem?_drop, hcg _ (by omega)]; congr 1; omega
  ·rw [hh, setRow_size, setRow_size]
   show _ ≤ (w.heap.push _).size
   rw [Array.size_push]; omega
  ·intro k hk hkb
   rw [hh, setRow_other _ _ k _ (by omega), setRow_other _ _ k _ (by omega)]
   show (w.heap.push _)[k]? = _
   rw [Array.getElem?_push, if_neg (by omega)]
theorem za6 {l : List Fx} {x : Fx} {i : Nat} (hi : i ≤ l.length) {gl gv : Nat → Nat → AV} (hl : eqG l.length 3 gl (fxG l)) (hv : eqG 1 3 gv (fxG [x])) : eqG (l.length + 1) 3 (insG i gl gv) (fxG (l.take i ++ x :: l.drop i)) := by
 intro j o hj ho
 have hlt : (l.take i).length = i := by rw [List.length_take]; omega
 simp only [insG]
 have e : fxG (l.take i ++ x :: l.drop i) j o = ((l.take i ++ x :: l.drop i).getD j Fx.nil).cell o := rfl
 rw [e]
 simp only [List.getD, List.getElem?_append, hlt]
 by_cases h1 : j < i
 ·rw [if_pos h1, if_pos h1, hl j o (by omega) ho, List.getElem?_take, if_pos h1]; rfl
 ·rw [if_neg h1, if_neg h1]
  by_cases h2 : j = i
  ·subst h2
   rw [if_pos rfl, hv 0 o (by decide) ho, Nat.sub_self]; rfl
  ·rw [if_neg h2, hl (j - 1) o (by omega) ho]
   obtain ⟨k, hk⟩ := Nat.exists_eq_succ_of_ne_zero (show j - i ≠ 0 by omega)
   rw [hk, List.getElem?_cons_succ, List.getElem?_drop, show i + k = j - 1 by omega]; rfl
theorem UY {l : List Ch} {x : Ch} {i : Nat} (hi : i ≤ l.length) {gl gv : Nat → Nat → AV} (hl : eqG l.length 4 gl (chG l)) (hv : eqG 1 4 gv (chG [x])) : eqG (l.length + 1) 4 (insG i gl gv) (chG (l.take i ++ x :: l.drop i)) := by
 intro j o hj ho
 have hlt : (l.take i).length = i := by rw [List.length_take]; omega
 simp only [insG]
 have e : chG (l.take i ++ x :: l.drop i) j o = ((l.take i ++ x :: l.drop i).getD j Ch.nil).cell o := rfl
 rw [e]
 simp only [List.getD, List.getElem?_append, hlt]
 by_cases h1 : j < i
 ·rw [if_pos h1, if_pos h1, hl j o (by omega) ho, List.getElem?_take, if_pos h1]; rfl
 ·rw [if_neg h1, if_neg h1]
  by_cases h2 : j = i
  ·subst h2
   rw [if_pos rfl, hv 0 o (by decide) ho, Nat.sub_self]; rfl
  ·rw [if_neg h2, hl (j - 1) o (by omega) ho]
   obtain ⟨k, hk⟩ := Nat.exists_eq_succ_of_ne_zero (show j - i ≠ 0 by omega)
   rw [hk, List.getElem?_cons_succ, List.getElem?_drop, show i + k = j - 1 by omega]; rfl
def zb6 : Ctr := ctrT false true (fun p : List Fx × Fx × Nat => [.osl 0 3 0 p.1.length, .int .i64 (p.2.2 : Int), .osl 1 3 0 1]) (fun p => [.arr p.1.length 3 (fxG p.1), .arr 1 3 (fxG [p.2.1])]) (fun p => p.2.2 ≤ p.1.length ∧ p.1.length < 2 ^ 40) (fun _ (_ : Unit) => True) (fun p (_ : Unit) => (.osl 0 3 0 (p.1.length + 1), [.arr (p.1.length + 1) 3 (fxG (p.1.take p.2.2 ++ p.2.1 :: p.1.drop p.2.2)), .dead]))
def zbp : Ctr := ctrT false true (fun p : List Ch × Ch × Nat => [.osl 0 4 0 p.1.length, .int .i64 (p.2.2 : Int), .osl 1 4 0 1]) (fun p => [.arr p.1.length 4 (chG p.1), .arr 1 4 (chG [p.2.1])]) (fun p => p.2.2 ≤ p.1.length ∧ p.1.length < 2 ^ 40) (fun _ (_ : Unit) => True) (fun p (_ : Unit) => (.osl 0 4 0 (p.1.length + 1), [.arr (p.1.length + 1) 4 (chG (p.1.take p.2.2 ++ p.2.1 :: p.1.drop p.2.2)), .dead]))
def zc8 : Ctr := ctrT false true (fun p : List Fx × Fx × Nat => [.osl 0 3 0 p.1.length, .int .i64 (p.2.2 : Int), .osl 1 3 0 1]) (fun p => [.arr p.1.length 3 (fxG p.1), .arr 1 3 (fxG [p.2.1])]) (fun p => p.2.2 = p.1.length ∧ p.1.length < 2 ^ 40) (fun _ (_ : Unit) => True) (fun p (_ : Unit) => (.osl 0 3 0 (p.1.length + 1), [.arr (p.1.length + 1) 3 (fxG (p.1.take p.2.2 ++ p.2.1 :: p.1.drop p.2.2)), .dead]))
def zbx : Ctr := ctrT false true (fun p : List Ch × Ch × Nat => [.osl 0 4 0 p.1.length, .int .i64 (p.2.2 : Int), .osl 1 4 0 1]) (fun p => [.arr p.1.length 4 (chG p.1), .arr 1 4 (chG [p.2.1])]) (fun p => p.2.2 = p.1.length ∧ p.1.length < 2 ^ 40) (fun _ (_ : Unit) => True) (fun p (_ : Unit) => (.osl 0 4 0 (p.1.length + 1), [.arr (p.1.length + 1) 4 (chG (p.1.take p.2.2 ++ p.2.1 :: p.1.drop p.2.2)), .dead]))
theorem Ya : zd Try.prog 91 zc8 := by
 refine jH (fn := Try.f91) (c := Try.f91.body.getD .skip) rfl rfl rfl (fun h => by cases h) fun p hp O w0 σ0 Q hl0 hq => ?_
 obtain ⟨l, x, i⟩ := p
 obtain ⟨h1, h2⟩ := hp
 replace hq := hq () trivial
 simp only at hq h1 h2
 refine zc.run hmix z7 [] 400 (T := .side ((0 : Int) ≤ i ∧ (↑i : Int) ≤ l.length) (.ite false (.leaf (.ret [.osl 0 3 0 l.length] [.arr l.length 3 (fxG l), .arr 1 3 (fxG [x])])) (.ite (decide ((↑i : Int) = l.length)) (.side (0 = 0 ∧ l.length ≤ l.length ∧ (l.length + 1) * 40 ≤ 140737488355328) (.leaf (.ret [.osl 0 3 0 (l.length + 1)] [.arr (l.length + 1) 3 (appG l.length (fxG l) (zg (fxG [x]) 0)), .arr 1 3 (fxG [x])]))) (.side (inR .i64 ((↑l.length : Int) + (1 : Int))) .fail)))) (by kernel_rfl) ?_
 simp only [Tree.holds, ze]
 refine ⟨by omega, fun _ => ⟨fun h => by simp at h, fun _ => ⟨fun h => ⟨⟨trivial, Nat.le_refl _, by omega⟩, fun _ => ?_⟩, fun h => ?_⟩⟩⟩
 ·refine RetR.keep [0, 1] rfl rfl (by show ∀ j, j < 2 → _; decide) rfl hq (by simp [resV, exp2, exp1, exp0, zp, eqA2]) ?_ rfl
  refine ⟨⟨rfl, rfl, ?_⟩, trivial, trivial⟩
  have e : l.take i ++ x :: l.drop i = l ++ [x] := by rw [h1, List.take_length, List.drop_length]
  rw [e]
  intro j o hj ho
  simp only [appG, fxG, kN, zg, Nat.zero_add]
  split
  ·rfl
  ·have : j = l.length := by omega
   subst this
   rw [if_pos rfl, Nat.sub_self]; rfl
 ·exact absurd h1 (by have := of_decide_eq_false h; omega)
theorem Yb : zd Try.prog 92 zbx := by
 refine jH (fn := Try.f92) (c := Try.f92.body.getD .skip) rfl rfl rfl (fun h => by cases h) fun p hp O w0 σ0 Q hl0 hq => ?_
 obtain ⟨l, x, i⟩ := p
 obtain ⟨h1, h2⟩ := hp
 replace hq := hq () trivial
 simp only at hq h1 h2
 refine zc.run hmix z7 [] 400 (T := .side ((0 : Int) ≤ i ∧ (↑i : Int) ≤ l.length) (.ite false (.leaf (.ret [.osl 0 4 0 l.length] [.arr l.length 4 (chG l), .arr 1 4 (chG [x])])) (.ite (decide ((↑i : Int) = l.length)) (.side (0 = 0 ∧ l.length ≤ l.length ∧ (l.length + 1) * 48 ≤ 140737488355328) (.leaf (.ret [.osl 0 4 0 (l.length + 1)] [.arr (l.length + 1) 4 (appG l.length (chG l) (zg (chG [x]) 0)), .arr 1 4 (chG [x])]))) (.side (inR .i64 ((↑l.length : Int) + (1 : Int))) .fail)))) (by kernel_rfl) ?_
 simp only [Tree.holds, ze]
 refine ⟨by omega, fun _ => ⟨fun h => by simp at h, fun _ => ⟨fun h => ⟨⟨trivial, Nat.le_refl _, by omega⟩, fun _ => ?_⟩, fun h => ?_⟩⟩⟩
 ·refine RetR.keep [0, 1] rfl rfl (by show ∀ j, j < 2 → _; decide) rfl hq (by simp [resV, exp2, exp1, exp0, zp, eqA2]) ?_ rfl
  refine ⟨⟨rfl, rfl, ?_⟩, trivial, trivial⟩
  have e : l.take i ++ x :: l.drop i = l ++ [x] := by rw [h1, List.take_length, List.drop_length]
  rw [e]
  intro j o hj ho
  simp only [appG, chG, kN, zg, Nat.zero_add]
  split
  ·rfl
  ·have : j = l.length := by omega
   subst this
   rw [if_pos rfl, Nat.sub_self]; rfl
 ·exact absurd h1 (by have := of_decide_eq_false h; omega)
theorem zap : zd Try.prog 91 zb6 := by
 intro args hc Q hq hfr
 obtain ⟨⟨l, x, i⟩, ⟨h1, h2, h3, h4, h5⟩, h6, h7⟩ := hq
 simp only at h1 h2 h3 h4 h5 h7
 rcases Nat.lt_or_ge i l.length with hlt | hge
 ·exact qh.le h1 (qh.leH h2 h3 (Kh (fn := Try.f91) (c := Try.f91.body.getD .skip) rfl rfl rfl (by decide) Xb hlt (by omega) (za6 h4 (za _ _ _) (za _ _ _)) rfl rfl rfl (h7 () trivial)))
 ·exact Ya args hc Q ⟨(l, x, i), ⟨h1, h2, h3, by show i = l.length; omega, h5⟩, h6, h7⟩ hfr
theorem zal : zd Try.prog 92 zbp := by
 intro args hc Q hq hfr
 obtain ⟨⟨l, x, i⟩, ⟨h1, h2, h3, h4, h5⟩, h6, h7⟩ := hq
 simp only at h1 h2 h3 h4 h5 h7
 rcases Nat.lt_or_ge i l.length with hlt | hge
 ·exact qh.le h1 (qh.leH h2 h3 (Kh (fn := Try.f92) (c := Try.f92.body.getD .skip) rfl rfl rfl (by decide) Xw hlt (by omega) (UY h4 (za _ _ _) (za _ _ _)) rfl rfl rfl (h7 () trivial)))
 ·exact Yb args hc Q ⟨(l, x, i), ⟨h1, h2, h3, by show i = l.length; omega, h5⟩, h6, h7⟩ hfr
end Go.Proofs.Try
end

/- What is known: the code's places. -/
section
set_option maxRecDepth 100000
open Go Go.Sx Go.Proofs Go.Nov
namespace Go.Proofs.Try
attribute [local simp] eqKV eqA eqA0 eqH eqB eqL eqL0
noncomputable def K79 : List Go.Sx.Item := [.code (Try.f79.body.getD .skip)]
noncomputable def K81 : List Go.Sx.Item := [.code (Try.f81.body.getD .skip)]
noncomputable def GPl : Nat → Option Ctr := fun f => if f = 45 then some (xF) else if f = 47 then some (xX) else if f = 82 then some (QC) else if f = 80 then some (QH) else if f = 48 then some (QY) else if f = 49 then some (J1) else if f = 91 then some (zb6) else if f = 92 then some (zbp) else none
theorem J6 : ∀ g c, GPl g = some c → zd Try.prog g c := okIf kZ (okIf xm (okIf Qt (okIf ZP (okIf Qj (okIf Qo (okIf zap (okIf zal (zu))))))))
def SPlc (l : List Fx) (i : Nat) : KV := [(0, fxS l), (2, .fn 45 [] []), (4, .ptr 0 0), (8, .osl 1 3 0 l.length), (10, .int .i64 (i : Int)), (29, .undef), (30, .undef), (31, .undef), (32, .undef), (33, .undef), (34, .undef), (35, .undef), (36, .undef)]
def HPl (l : List Fx) (x : Fx) : Heap := [.box [.str x.name, .int .i64 x.date, .str x.value], .arr l.length 3 (fxG l)]
def SQl (l : List Ch) (i : Nat) : KV := [(0, chS l), (2, .fn 47 [] []), (4, .ptr 0 0), (8, .osl 1 4 0 l.length), (10, .int .i64 (i : Int)), (29, .undef), (30, .undef), (31, .undef), (32, .undef), (33, .undef), (34, .undef), (35, .undef), (36, .undef)]
def HQl (l : List Ch) (x : Ch) : Heap := [.box [.str x.zb, .str x.name, .int .i64 x.date, .bool x.first], .arr l.length 4 (chG l)]
def uP : Ctr := ctrP true (fun p : List Fx × Fx => [fxS p.1, p.2.av, .fn 45 [] []]) (fun p => p.1.length ≤ 1000 ∧ ordB cmpF Fx.nil p.1 = true) (fun p (r : List Fx × Bool) => r = (zh cmpF p.2 p.1, decide ((zh cmpF p.2 p.1).length ≤ 1000))) (fun _ r => (.tup [.osl 0 3 0 r.1.length, .bool r.2], [.arr r.1.length 3 (fxG r.1)]))
theorem Vf : zd Try.prog 79 uP := by
 refine zm (fn := Try.f79) (c := Try.f79.body.getD .skip) rfl rfl rfl fun p hp O w0 Q hq => ?_
 obtain ⟨l, x⟩ := p
 obtain ⟨hl, hord⟩ := hp
 replace hq := hq _ rfl
 simp only at hq hl hord
 have hpw := xK QU hord
 refine zc.run hmix J6 [0, 2, 4, 8, 10, 29, 30, 31, 32, 33, 34, 35, 36] 400 (T := .ex (fun (x : List Fx) => eqL [AV.sl l.length 3 (fxG l)] [AV.sl x.length 3 (fxG x)] ∧ x.length < 1099511627776) fun n => .all (fun (x : Unit) => True) fun n_1 => .ex (fun (x_1 : List Fx × Fx) => eqL [AV.sl n.length 3 (zg (fxG n) 0), AV.agg [AV.str x.name, AV.int .i64 x.date, AV.str x.value], AV.fn 45 [] []] [AV.sl x_1.1.length 3 (fxG x_1.1), AV.agg [AV.str x_1.2.name, AV.int .i64 x_1.2.date, AV.str x_1.2.value], AV.fn 45 [] []] ∧ x_1.1.length < 1099511627776) fun n_2 => .all (fun (r : Int) => r = idxB (fun (x : Fx) => decide (cmpF x n_2.2 = 0)) n_2.1) fun n_3 => .ite (decide ((0 : Int) ≤ n_3)) (.side ((0 : Int) ≤ n_3 ∧ n_3 < (↑n.length : Int)) (.leaf (.ret [.osl 1 3 0 n.length, .bool true] [.box [.str x.name, .int .i64 x.date, .str x.value], .arr n.length 3 (updG (fxG n) (0 + Int.toNat n_3) 0 [.str x.name, .int .i64 x.date, .str x.value])]))) (.leaf (.loop (Prod.fst (lps K79 0)) (Prod.snd (lps K79 0)) [(0, .sl l.length 3 (fxG l)), (2, .fn 45 [] []), (4, .ptr 0 0), (8, .osl 1 3 0 n.length), (10, .int .i64 0), (29, .undef), (30, .undef), (31, .undef), (32, .undef), (33, .undef), (34, .undef), (35, .undef), (36, .undef)] [.box [.str x.name, .int .i64 x.date, .str x.value], .arr n.length 3 (fxG n)]))) (by kernel_rfl) ?_
 simp only [Tree.holds, ze]
 have fin : ∀ (r : List Fx) (b : Bool) (h : Heap) (g : Nat → Nat → AV), r = zh cmpF x l → b = decide ((zh cmpF x l).length ≤ 1000) → h.length = 2 ∨ h.length = 3 → h.getD 1 .dead = .arr r.length 3 g → eqG r.length 3 g (fxG r) → RetR uP 0 Q [.osl 1 3 0 r.length, .bool b] h := by
  intro r b h g hr hb hlen hh hg
  subst hr; subst hb
  refine RetR.outs [1] rfl (by simp; omega) hq (fun _ => ⟨?_, ?_⟩) ?_ ?_ rfl
  ·simp [resV, new2, new1, new0, zp, zU]
  ·simp only [List.mem_cons, List.not_mem_nil, or_false, forall_eq, hh]
   exact uz hg
  ·simp [resV, exp2, exp1, exp0, zp, ren0, eqA2, eqL1]
  ·simp only [expH, List.map_cons, List.map_nil, hh, expB]
   exact ⟨⟨rfl, rfl, hg⟩, trivial⟩
 refine ⟨l, ⟨by simp [za], by omega⟩, ⟨(), trivial⟩, fun _ _ => ⟨(l, x), ⟨by simp [vq], by show l.length < 2 ^ 40; omega⟩, ⟨_, rfl⟩, ?_⟩⟩
 rintro _ rfl
 obtain ⟨hlt, hfd⟩ := kD (p := fun y => decide (cmpF y x = 0)) Fx.nil l
 refine ⟨fun h => ?_, fun h => ?_⟩
 ·have h := of_decide_eq_true h
  rw [if_pos h] at hfd
  simp only at h hlt ⊢
  have hk := List.find?_some hfd
  have hk : cmpF (l.getD (idxB (fun y => decide (cmpF y x = 0)) l).toNat Fx.nil) x = 0 := of_decide_eq_true hk
  have hsp := yC QU (x := x) (z := Fx.nil) hpw (show (idxB (fun y => decide (cmpF y x = 0)) l).toNat < l.length by omega) hk
  refine ⟨⟨h, hlt⟩, fun _ => ?_⟩
  have hlen : (l.set (idxB (fun y => decide (cmpF y x = 0)) l).toNat x).length = l.length := List.length_set
  have := fin _ true _ (updG (fxG l) (0 + (idxB (fun y => decide (cmpF y x = 0)) l).toNat) 0 [.str x.name, .int .i64 x.date, .str x.value]) hsp (by rw [← hsp, hlen]; exact (decide_eq_true hl).symm) (.inl (rfl : ([.box [.str x.name, .int .i64 x.date, .str x.value], .arr l.length 3 (updG (fxG l) (0 + (idxB (fun y => decide (cmpF y x = 0)) l).toNat) 0 [.str x.name, .int .i64 x.date, .str x.value])] : Heap).length = 2)) (by rw [hlen]; rfl) (by rw [hlen, Nat.zero_add]; exact zcl (by omega))
  rw [hlen] at this
  exact this
 ·have h := of_decide_eq_false h
  rw [if_neg h, List.find?_eq_none] at hfd
  have hno : ∀ j, j < l.length → cmpF (l.getD j Fx.nil) x ≠ 0 := fun j hj h0 => by
   exact hfd (l.getD j Fx.nil) (by simp [List.getD, hj]) (decide_eq_true h0)
  refine zc.loop (ι := {i : Nat // i ≤ l.length ∧ ∀ j, j < i → cmpF (l.getD j Fx.nil) x < 0}) (fun i => SPlc l i.1) (fun _ => HPl l x) (fun i => l.length - i.1) ⟨0, Nat.zero_le _, fun j hj => by omega⟩ 0 ?_ ?_ (by kernel_rfl)
  ·exact ⟨by simp [SPlc, fxS, za], by simp [HPl, za], by kernel_rfl, Nat.zero_le _⟩
  ·rintro ⟨i, hil, hib⟩
   refine zc.run hmix J6 [0, 2, 4, 8, 10, 29, 30, 31, 32, 33, 34, 35, 36] 400 (T := .side (decide ((↑i : Int) < l.length) = true → (0 : Int) ≤ i ∧ (↑i : Int) < l.length) (.ex (fun (x_1 : Fx × Fx) => decide ((↑i : Int) < l.length) = true → eqL [AV.agg [AV.str (Fx.name (List.getD l (0 + Int.toNat (↑i : Int)) Fx.nil)), AV.int .i64 (Fx.date (List.getD l (0 + Int.toNat (↑i : Int)) Fx.nil)), AV.str (Fx.value (List.getD l (0 + Int.toNat (↑i : Int)) Fx.nil))], AV.agg [AV.str x.name, AV.int .i64 x.date, AV.str x.value]] [AV.agg [AV.str x_1.1.name, AV.int .i64 x_1.1.date, AV.str x_1.1.value], AV.agg [AV.str x_1.2.name, AV.int .i64 x_1.2.date, AV.str x_1.2.value]] ∧ True) fun n => .all (fun (x : Int) => decide ((↑i : Int) < l.length) = true → x = cmpF n.1 n.2) fun n => .ite (bif decide ((↑i : Int) < l.length) then decide (n < 0) else false) (.side (inR .i64 ((↑i : Int) + (1 : Int))) (.leaf (.back 0 [(0, .sl l.length 3 (fxG l)), (2, .fn 45 [] []), (4, .ptr 0 0), (8, .osl 1 3 0 l.length), (10, .int .i64 ((↑i : Int) + (1 : Int))), (29, .undef), (30, .undef), (31, .undef), (32, .undef), (33, .undef), (34, .undef), (35, .undef), (36, .undef)] [.box [.str x.name, .int .i64 x.date, .str x.value], .arr l.length 3 (fxG l)]))) (.ex (fun (x_1 : List Fx × Fx × Nat) => eqL [AV.osl 0 3 0 l.length, AV.int .i64 i, AV.osl 1 3 0 1] [AV.osl 0 3 0 x_1.1.length, AV.int .i64 x_1.2.2, AV.osl 1 3 0 1] ∧ eqH [.arr l.length 3 (fxG l), .arr 1 3 (zf 3 [AV.str x.name, AV.int .i64 x.date, AV.str x.value])] [.arr x_1.1.length 3 (fxG x_1.1), .arr 1 3 (fxG [x_1.2.1])] ∧ 2 = 2 ∧ x_1.2.2 ≤ x_1.1.length ∧ x_1.1.length < 1099511627776) fun n => .all (fun (x : Unit) => True) fun n_1 => .leaf (.ret [.osl 1 3 0 (n.1.length + 1), .bool (decide ((↑l.length : Int) < 1000))] [.box [.str x.name, .int .i64 x.date, .str x.value], .arr (n.1.length + 1) 3 (fxG (List.take n.2.2 n.1 ++ n.2.1 :: List.drop n.2.2 n.1)), .dead])))) (by kernel_rfl) ?_
   simp only [Tree.holds, ze, inR, lo, hi, Int.toNat_natCast, Nat.zero_add]
   refine ⟨fun h => by have := of_decide_eq_true h; omega, fun _ => ⟨(l.getD i Fx.nil, x), fun _ => ⟨by simp, trivial⟩, ⟨_, fun _ => rfl⟩, ?_⟩⟩
   intro n hn
   refine ⟨fun h2 => ?_, fun h2 => ?_⟩
   ·rw [Bool.cond_eq_ite] at h2
    split at h2
    ·rename_i g1
     rw [hn g1] at h2
     have g1 := of_decide_eq_true g1
     have h2 := of_decide_eq_true h2
     refine ⟨by omega, fun _ => ?_⟩
     rw [if_pos trivial]
     refine ⟨⟨i + 1, by omega, fun j hj => ?_⟩, by show l.length - (i + 1) < l.length - i; omega, by simp [SPlc, fxS, za], by simp [HPl, za], by kernel_rfl, Nat.zero_le _⟩
     rcases Nat.lt_or_ge j i with h1 | h1
     ·exact hib j h1
     ·have : j = i := by omega
      rw [this]; exact h2
    ·cases h2
   ·have hnot : i < l.length → ¬ cmpF (l.getD i Fx.nil) x < 0 := fun hlt2 => by
     have g1 : decide ((i : Int) < l.length) = true := decide_eq_true (by omega)
     rw [g1, hn g1] at h2
     exact of_decide_eq_false h2
    refine ⟨(l, x, i), ⟨by simp, ⟨⟨rfl, rfl, za _ _ _⟩, ⟨rfl, rfl, fun j o hj ho => ?_⟩, trivial⟩, trivial, hil, by show l.length < 2 ^ 40; omega⟩, ⟨(), trivial⟩, fun _ _ => ?_⟩
    ·have := Fx.ve x hj ho
     simp only [zg, Nat.zero_add] at this
     rw [this]
     have : j = 0 := by omega
     subst this; rfl
    ·have hins := yi (x := x) (z := Fx.nil) hno hib hil hnot
     have hlen : (l.take i ++ x :: l.drop i).length = l.length + 1 := by simp; omega
     have := fin _ (decide ((l.length : Int) < 1000)) [.box [.str x.name, .int .i64 x.date, .str x.value], .arr (l.length + 1) 3 (fxG (l.take i ++ x :: l.drop i)), .dead] (fxG (l.take i ++ x :: l.drop i)) hins (by rw [← hins, hlen]; exact decide_eq_decide.2 (by omega)) (.inr rfl) (by rw [hlen]; rfl) (za _ _ _)
     rw [hlen] at this
     exact this
def uJ : Ctr := ctrP true (fun p : List Ch × Ch => [chS p.1, p.2.av, .fn 47 [] []]) (fun p => p.1.length ≤ 1000 ∧ ordB cmpC Ch.nil p.1 = true) (fun p (r : List Ch × Bool) => r = (zh cmpC p.2 p.1, decide ((zh cmpC p.2 p.1).length ≤ 1000))) (fun _ r => (.tup [.osl 0 4 0 r.1.length, .bool r.2], [.arr r.1.length 4 (chG r.1)]))
theorem VK : zd Try.prog 81 uJ := by
 refine zm (fn := Try.f81) (c := Try.f81.body.getD .skip) rfl rfl rfl fun p hp O w0 Q hq => ?_
 obtain ⟨l, x⟩ := p
 obtain ⟨hl, hord⟩ := hp
 replace hq := hq _ rfl
 simp only at hq hl hord
 have hpw := xK J5 hord
 refine zc.run hmix J6 [0, 2, 4, 8, 10, 29, 30, 31, 32, 33, 34, 35, 36] 400 (T := .ex (fun (x : List Ch) => eqL [AV.sl l.length 4 (chG l)] [AV.sl x.length 4 (chG x)] ∧ x.length < 1099511627776) fun n => .all (fun (x : Unit) => True) fun n_1 => .ex (fun (x_1 : List Ch × Ch) => eqL [AV.sl n.length 4 (zg (chG n) 0), AV.agg [AV.str x.zb, AV.str x.name, AV.int .i64 x.date, AV.bool x.first], AV.fn 47 [] []] [AV.sl x_1.1.length 4 (chG x_1.1), AV.agg [AV.str x_1.2.zb, AV.str x_1.2.name, AV.int .i64 x_1.2.date, AV.bool x_1.2.first], AV.fn 47 [] []] ∧ x_1.1.length < 1099511627776) fun n_2 => .all (fun (r : Int) => r = idxB (fun (x : Ch) => decide (cmpC x n_2.2 = 0)) n_2.1) fun n_3 => .ite (decide ((0 : Int) ≤ n_3)) (.side ((0 : Int) ≤ n_3 ∧ n_3 < (↑n.length : Int)) (.leaf (.ret [.osl 1 4 0 n.length, .bool true] [.box [.str x.zb, .str x.name, .int .i64 x.date, .bool x.first], .arr n.length 4 (updG (chG n) (0 + Int.toNat n_3) 0 [.str x.zb, .str x.name, .int .i64 x.date, .bool x.first])]))) (.leaf (.loop (Prod.fst (lps K81 0)) (Prod.snd (lps K81 0)) [(0, .sl l.length 4 (chG l)), (2, .fn 47 [] []), (4, .ptr 0 0), (8, .osl 1 4 0 n.length), (10, .int .i64 0), (29, .undef), (30, .undef), (31, .undef), (32, .undef), (33, .undef), (34, .undef), (35, .undef), (36, .undef)] [.box [.str x.zb, .str x.name, .int .i64 x.date, .bool x.first], .arr n.length 4 (chG n)]))) (by kernel_rfl) ?_
 simp only [Tree.holds, ze]
 have fin : ∀ (r : List Ch) (b : Bool) (h : Heap) (g : Nat → Nat → AV), r = zh cmpC x l → b = decide ((zh cmpC x l).length ≤ 1000) → h.length = 2 ∨ h.length = 3 → h.getD 1 .dead = .arr r.length 4 g → eqG r.length 4 g (chG r) → RetR uJ 0 Q [.osl 1 4 0 r.length, .bool b] h := by
  intro r b h g hr hb hlen hh hg
  subst hr; subst hb
  refine RetR.outs [1] rfl (by simp; omega) hq (fun _ => ⟨?_, ?_⟩) ?_ ?_ rfl
  ·simp [resV, new2, new1, new0, zp, zU]
  ·simp only [List.mem_cons, List.not_mem_nil, or_false, forall_eq, hh]
   exact uw hg
  ·simp [resV, exp2, exp1, exp0, zp, ren0, eqA2, eqL1]
  ·simp only [expH, List.map_cons, List.map_nil, hh, expB]
   exact ⟨⟨rfl, rfl, hg⟩, trivial⟩
 refine ⟨l, ⟨by simp [za], by omega⟩, ⟨(), trivial⟩, fun _ _ => ⟨(l, x), ⟨by simp [vq], by show l.length < 2 ^ 40; omega⟩, ⟨_, rfl⟩, ?_⟩⟩
 rintro _ rfl
 obtain ⟨hlt, hfd⟩ := kD (p := fun y => decide (cmpC y x = 0)) Ch.nil l
 refine ⟨fun h => ?_, fun h => ?_⟩
 ·have h := of_decide_eq_true h
  rw [if_pos h] at hfd
  simp only at h hlt ⊢
  have hk := List.find?_some hfd
  have hk : cmpC (l.getD (idxB (fun y => decide (cmpC y x = 0)) l).toNat Ch.nil) x = 0 := of_decide_eq_true hk
  have hsp := yC J5 (x := x) (z := Ch.nil) hpw (show (idxB (fun y => decide (cmpC y x = 0)) l).toNat < l.length by omega) hk
  refine ⟨⟨h, hlt⟩, fun _ => ?_⟩
  have hlen : (l.set (idxB (fun y => decide (cmpC y x = 0)) l).toNat x).length = l.length := List.length_set
  have := fin _ true _ (updG (chG l) (0 + (idxB (fun y => decide (cmpC y x = 0)) l).toNat) 0 [.str x.zb, .str x.name, .int .i64 x.date, .bool x.first]) hsp (by rw [← hsp, hlen]; exact (decide_eq_true hl).symm) (.inl (rfl : ([.box [.str x.zb, .str x.name, .int .i64 x.date, .bool x.first], .arr l.length 4 (updG (chG l) (0 + (idxB (fun y => decide (cmpC y x = 0)) l).toNat) 0 [.str x.zb, .str x.name, .int .i64 x.date, .bool x.first])] : Heap).length = 2)) (by rw [hlen]; rfl) (by rw [hlen, Nat.zero_add]; exact zcf (by omega))
  rw [hlen] at this
  exact this
 ·have h := of_decide_eq_false h
  rw [if_neg h, List.find?_eq_none] at hfd
  have hno : ∀ j, j < l.length → cmpC (l.getD j Ch.nil) x ≠ 0 := fun j hj h0 => by
   exact hfd (l.getD j Ch.nil) (by simp [List.getD, hj]) (decide_eq_true h0)
  refine zc.loop (ι := {i : Nat // i ≤ l.length ∧ ∀ j, j < i → cmpC (l.getD j Ch.nil) x < 0}) (fun i => SQl l i.1) (fun _ => HQl l x) (fun i => l.length - i.1) ⟨0, Nat.zero_le _, fun j hj => by omega⟩ 0 ?_ ?_ (by kernel_rfl)
  ·exact ⟨by simp [SQl, chS, za], by simp [HQl, za], by kernel_rfl, Nat.zero_le _⟩
  ·rintro ⟨i, hil, hib⟩
   refine zc.run hmix J6 [0, 2, 4, 8, 10, 29, 30, 31, 32, 33, 34, 35, 36] 400 (T := .side (decide ((↑i : Int) < l.length) = true → (0 : Int) ≤ i ∧ (↑i : Int) < l.length) (.ex (fun (x_1 : Ch × Ch) => decide ((↑i : Int) < l.length) = true → eqL [AV.agg [AV.str (Ch.zb (List.getD l (0 + Int.toNat (↑i : Int)) Ch.nil)), AV.str (Ch.name (List.getD l (0 + Int.toNat (↑i : Int)) Ch.nil)), AV.int .i64 (Ch.date (List.getD l (0 + Int.toNat (↑i : Int)) Ch.nil)), AV.bool (Ch.first (List.getD l (0 + Int.toNat (↑i : Int)) Ch.nil))], AV.agg [AV.str x.zb, AV.str x.name, AV.int .i64 x.date, AV.bool x.first]] [AV.agg [AV.str x_1.1.zb, AV.str x_1.1.name, AV.int .i64 x_1.1.date, AV.bool x_1.1.first], AV.agg [AV.str x_1.2.zb, AV.str x_1.2.name, AV.int .i64 x_1.2.date, AV.bool x_1.2.first]] ∧ True) fun n => .all (fun (x : Int) => decide ((↑i : Int) < l.length) = true → x = cmpC n.1 n.2) fun n => .ite (bif decide ((↑i : Int) < l.length) then decide (n < 0) else false) (.side (inR .i64 ((↑i : Int) + (1 : Int))) (.leaf (.back 0 [(0, .sl l.length 4 (chG l)), (2, .fn 47 [] []), (4, .ptr 0 0), (8, .osl 1 4 0 l.length), (10, .int .i64 ((↑i : Int) + (1 : Int))), (29, .undef), (30, .undef), (31, .undef), (32, .undef), (33, .undef), (34, .undef), (35, .undef), (36, .undef)] [.box [.str x.zb, .str x.name, .int .i64 x.date, .bool x.first], .arr l.length 4 (chG l)]))) (.ex (fun (x_1 : List Ch × Ch × Nat) => eqL [AV.osl 0 4 0 l.length, AV.int .i64 i, AV.osl 1 4 0 1] [AV.osl 0 4 0 x_1.1.length, AV.int .i64 x_1.2.2, AV.osl 1 4 0 1] ∧ eqH [.arr l.length 4 (chG l), .arr 1 4 (zf 4 [AV.str x.zb, AV.str x.name, AV.int .i64 x.date, AV.bool x.first])] [.arr x_1.1.length 4 (chG x_1.1), .arr 1 4 (chG [x_1.2.1])] ∧ 2 = 2 ∧ x_1.2.2 ≤ x_1.1.length ∧ x_1.1.length < 1099511627776) fun n => .all (fun (x : Unit) => True) fun n_1 => .leaf (.ret [.osl 1 4 0 (n.1.length + 1), .bool (decide ((↑l.length : Int) < 1000))] [.box [.str x.zb, .str x.name, .int .i64 x.date, .bool x.first], .arr (n.1.length + 1) 4 (chG (List.take n.2.2 n.1 ++ n.2.1 :: List.drop n.2.2 n.1)), .dead])))) (by kernel_rfl) ?_
   simp only [Tree.holds, ze, inR, lo, hi, Int.toNat_natCast, Nat.zero_add]
   refine ⟨fun h => by have := of_decide_eq_true h; omega, fun _ => ⟨(l.getD i Ch.nil, x), fun _ => ⟨by simp, trivial⟩, ⟨_, fun _ => rfl⟩, ?_⟩⟩
   intro n hn
   refine ⟨fun h2 => ?_, fun h2 => ?_⟩
   ·rw [Bool.cond_eq_ite] at h2
    split at h2
    ·rename_i g1
     rw [hn g1] at h2
     have g1 := of_decide_eq_true g1
     have h2 := of_decide_eq_true h2
     refine ⟨by omega, fun _ => ?_⟩
     rw [if_pos trivial]
     refine ⟨⟨i + 1, by omega, fun j hj => ?_⟩, by show l.length - (i + 1) < l.length - i; omega, by simp [SQl, chS, za], by simp [HQl, za], by kernel_rfl, Nat.zero_le _⟩
     rcases Nat.lt_or_ge j i with h1 | h1
     ·exact hib j h1
     ·have : j = i := by omega
      rw [this]; exact h2
    ·cases h2
   ·have hnot : i < l.length → ¬ cmpC (l.getD i Ch.nil) x < 0 := fun hlt2 => by
     have g1 : decide ((i : Int) < l.length) = true := decide_eq_true (by omega)
     rw [g1, hn g1] at h2
     exact of_decide_eq_false h2
    refine ⟨(l, x, i), ⟨by simp, ⟨⟨rfl, rfl, za _ _ _⟩, ⟨rfl, rfl, fun j o hj ho => ?_⟩, trivial⟩, trivial, hil, by show l.length < 2 ^ 40; omega⟩, ⟨(), trivial⟩, fun _ _ => ?_⟩
    ·have := Ch.ve x hj ho
     simp only [zg, Nat.zero_add] at this
     rw [this]
     have : j = 0 := by omega
     subst this; rfl
    ·have hins := yi (x := x) (z := Ch.nil) hno hib hil hnot
     have hlen : (l.take i ++ x :: l.drop i).length = l.length + 1 := by simp; omega
     have := fin _ (decide ((l.length : Int) < 1000)) [.box [.str x.zb, .str x.name, .int .i64 x.date, .bool x.first], .arr (l.length + 1) 4 (chG (l.take i ++ x :: l.drop i)), .dead] (chG (l.take i ++ x :: l.drop i)) hins (by rw [← hins, hlen]; exact decide_eq_decide.2 (by omega)) (.inr rfl) (by rw [hlen]; rfl) (za _ _ _)
     rw [hlen] at this
     exact this
noncomputable def GPu : Nat → Option Ctr := fun f => if f = 21 then some (Ja) else if f = 38 then some (W9) else if f = 39 then some (J0) else if f = 40 then some (uv) else if f = 79 then some (uP) else if f = 81 then some (uJ) else if f = 82 then some (QC) else if f = 80 then some (QH) else none
theorem XU : ∀ g c, GPu g = some c → zd Try.prog g c := okIf ZX (okIf Jg (okIf Q8 (okIf y9 (okIf Vf (okIf VK (okIf Qt (okIf ZP (zu))))))))
def zbd : Ctr := ctrP true (fun p : (List Fx × List Ch) × Fx => [envA p.1.1 p.1.2, p.2.av]) (fun p => envP p.1 ∧ jb p.2) (fun p r => r = putF p.1.1 p.1.2 p.2) (fun _ (r : (List Fx × List Ch) × Int) => (.tup [.agg [.osl 0 3 0 r.1.1.length, .osl 1 4 0 r.1.2.length], .int .i64 r.2], [.arr r.1.1.length 3 (fxG r.1.1), .arr r.1.2.length 4 (chG r.1.2)]))
def zbb : Ctr := ctrP true (fun p : (List Fx × List Ch) × Ch => [envA p.1.1 p.1.2, p.2.av]) (fun p => envP p.1 ∧ je p.2) (fun p r => r = putC p.1.1 p.1.2 p.2) (fun _ (r : (List Fx × List Ch) × Int) => (.tup [.agg [.osl 0 3 0 r.1.1.length, .osl 1 4 0 r.1.2.length], .int .i64 r.2], [.arr r.1.1.length 3 (fxG r.1.1), .arr r.1.2.length 4 (chG r.1.2)]))
theorem Kq {ctr : Ctr} {Q : AV × Heap → Prop} (e : Int) (h : Heap) (hq : Q (.tup [.agg [.osl 0 3 0 ([] : List Fx).length, .osl 1 4 0 ([] : List Ch).length], .int .i64 e], [.arr ([] : List Fx).length 3 (fxG []), .arr ([] : List Ch).length 4 (chG [])])) : RetR ctr 0 (upQ Q) [.agg [.nils, .nils], .int .i64 e] h := by
 refine RetR.out0 (r := .tup [.agg [.nils, .nils], .int .i64 e]) (.inr ⟨_, [(3, fxG []), (4, chG [])], ?_, hq⟩) (fun _ => by simp [resV, new2, new1, new0, zU]) (by simp [resV, exp2, exp1, exp0, ren0, eqA2, eqL1])
 simp [upA2, upA1, upA0, upL1, upL0]
theorem zae : zd Try.prog 59 zbd := by
 refine vW (fn := Try.f59) (c := Try.f59.body.getD .skip) rfl rfl rfl fun p hp O w0 Q hq => ?_
 obtain ⟨⟨f, c⟩, ⟨a, d, v⟩⟩ := p
 obtain ⟨he, hs1, hs2⟩ := hp
 replace hq := hq _ rfl
 simp only at hq he hs1 hs2
 refine zc.run hmix XU [] 400 (T := .ex (fun (x : List Fx × List Ch) => eqL [AV.agg [AV.sl f.length 3 (fxG f), AV.sl c.length 4 (chG c)]] [AV.agg [AV.sl x.1.length 3 (fxG x.1), AV.sl x.2.length 4 (chG x.2)]] ∧ envP x) fun n => .all (fun (r : Int) => r = errE n.1 n.2) fun n => .ite (!decide (n = 0)) (.leaf (.ret [.agg [.nils, .nils], .int .i64 n] [.box [.sl f.length 3 (fxG f), .sl c.length 4 (chG c)], .box [.str a, .int .i64 d, .str v], .box [.nils, .nils]])) (.ex (fun (x : List UInt8) => eqL [AV.str a] [AV.str x] ∧ x.length < 4611686018427387904) fun n => .all (fun (r : Bool) => r = zI n) fun n => .ex (fun (x : Int) => (!n) = false → eqL [AV.int .i64 d] [AV.int .i64 x] ∧ True) fun n_1 => .all (fun (x : Bool) => (!n) = false → x = dayB n_1) fun n_2 => .ite (bif !n then true else !n_2) (.leaf (.ret [.agg [.nils, .nils], .int .i64 2] [.box [.sl f.length 3 (fxG f), .sl c.length 4 (chG c)], .box [.str a, .int .i64 d, .str v], .box [.nils, .nils]])) (.ex (fun (x : List UInt8) => eqL [AV.str v] [AV.str x] ∧ x.length < 4611686018427387904) fun n => .all (fun (r : Int) => r = errR n) fun n => .ite (!decide (n = 0)) (.leaf (.ret [.agg [.nils, .nils], .int .i64 n] [.box [.sl f.length 3 (fxG f), .sl c.length 4 (chG c)], .box [.str a, .int .i64 d, .str v], .box [.nils, .nils]])) (.ex (fun (x : List Fx × Fx) => eqL [AV.sl f.length 3 (fxG f), AV.agg [AV.str a, AV.int .i64 d, AV.str v], AV.fn 45 [] []] [AV.sl x.1.length 3 (fxG x.1), AV.agg [AV.str x.2.name, AV.int .i64 x.2.date, AV.str x.2.value], AV.fn 45 [] []] ∧ x.1.length ≤ 1000 ∧ ordB cmpF Fx.nil x.1 = true) fun n => .all (fun (r : List Fx × Bool) => r = (zh cmpF n.2 n.1, decide (List.length (zh cmpF n.2 n.1) ≤ 1000))) fun n => .ite (!Prod.snd n) (.leaf (.ret [.agg [.nils, .nils], .int .i64 22] [.box [.sl f.length 3 (fxG f), .sl c.length 4 (chG c)], .box [.str a, .int .i64 d, .str v], .box [.nils, .nils], .arr n.1.length 3 (fxG n.1)])) (.ex (fun (x : List Ch) => eqL [AV.sl c.length 4 (chG c)] [AV.sl x.length 4 (chG x)] ∧ x.length < 1099511627776) fun n_3 => .all (fun (x : Unit) => True) fun n_4 => .leaf (.ret [.agg [.osl 3 3 0 n.1.length, .osl 4 4 0 n_3.length], .int .i64 0] [.box [.sl f.length 3 (fxG f), .sl c.length 4 (chG c)], .box [.str a, .int .i64 d, .str v], .box [.osl 3 3 0 n.1.length, .osl 4 4 0 n_3.length], .arr n.1.length 3 (fxG n.1), .arr n_3.length 4 (chG n_3)])))))) (by kernel_rfl) ?_
 simp only [Tree.holds, ze]
 have bad : ∀ (e : Int) (h : Heap), putF f c ⟨a, d, v⟩ = (([], []), e) → RetR zbd 0 (upQ Q) [.agg [.nils, .nils], .int .i64 e] h := fun e h hr => by
  rw [hr] at hq
  exact Kq e h hq
 refine ⟨(f, c), ⟨by simp [za], he⟩, ⟨_, rfl⟩, ?_⟩
 rintro _ rfl
 refine ⟨fun h => ?_, fun h => ?_⟩
 ·have h : errE f c ≠ 0 := by simpa using h
  exact bad _ _ (by simp [putF, h])
 ·have h : errE f c = 0 := by simpa using h
  refine ⟨a, ⟨by simp, by omega⟩, ⟨_, rfl⟩, ?_⟩
  rintro _ rfl
  refine ⟨d, fun _ => ⟨by simp, trivial⟩, ⟨_, fun _ => rfl⟩, ?_⟩
  intro b1 g1
  have key : (bif !zI a then true else !b1) = !(zI a && dayB d) := by
   cases hn : zI a with
   | false => rfl
   | true => rw [g1 (by rw [hn]; rfl)]; rfl
  rw [key]
  refine ⟨fun h2 => ?_, fun h2 => ?_⟩
  ·exact bad _ _ (by simp only [putF]; rw [if_neg (by simp [h]), if_pos (by simpa only [Bool.not_eq_true'] using h2)])
  ·have h2 : ¬ (zI a && dayB d) = false := by simpa using h2
   refine ⟨v, ⟨by simp, by omega⟩, ⟨_, rfl⟩, ?_⟩
   rintro _ rfl
   refine ⟨fun h3 => ?_, fun h3 => ?_⟩
   ·have h3 : errR v ≠ 0 := by simpa using h3
    exact bad _ _ (by simp only [putF]; rw [if_neg (by simp [h]), if_neg h2, if_pos h3])
   ·have h3 : ¬ errR v ≠ 0 := by simpa using h3
    obtain ⟨hb, _, _, ho, _⟩ := yN.1 h
    refine ⟨(f, ⟨a, d, v⟩), ⟨by simp [za], by show f.length ≤ 1000; omega, ho⟩, ⟨_, rfl⟩, ?_⟩
    rintro _ rfl
    refine ⟨fun h4 => ?_, fun h4 => ?_⟩
    ·have h4 : 1000 < (zh cmpF ⟨a, d, v⟩ f).length := by simpa using h4
     exact bad _ _ (by simp only [putF]; rw [if_neg (by simp [h]), if_neg h2, if_neg h3, if_pos h4])
    ·have h4 : ¬ 1000 < (zh cmpF ⟨a, d, v⟩ f).length := by simpa using h4
     have hr : putF f c ⟨a, d, v⟩ = ((zh cmpF ⟨a, d, v⟩ f, c), 0) := by simp only [putF]; rw [if_neg (by simp [h]), if_neg h2, if_neg h3, if_neg h4]
     rw [hr] at hq
     refine ⟨c, ⟨by simp [za], by omega⟩, ⟨(), trivial⟩, fun _ _ => ?_⟩
     refine RetR.outs [3, 4] rfl rfl (.inl hq) (fun _ => ⟨?_, ?_⟩) ?_ ?_ rfl
     ·simp [resV, new2, new1, new0, zp, zU]
     ·simp only [List.mem_cons, List.not_mem_nil, or_false, forall_eq_or_imp, forall_eq]
      exact ⟨uz (za _ _ _), uw (za _ _ _)⟩
     ·simp [resV, exp2, exp1, exp0, zp, ren0, eqA2, eqL1]
     ·exact ⟨⟨rfl, rfl, za _ _ _⟩, ⟨rfl, rfl, za _ _ _⟩, trivial⟩
theorem U8 : zd Try.prog 60 zbb := by
 refine vW (fn := Try.f60) (c := Try.f60.body.getD .skip) rfl rfl rfl fun p hp O w0 Q hq => ?_
 obtain ⟨⟨f, c⟩, ⟨a, v, d, b⟩⟩ := p
 obtain ⟨he, hs1, hs2⟩ := hp
 replace hq := hq _ rfl
 simp only at hq he hs1 hs2
 refine zc.run hmix XU [] 400 (T := .ex (fun (x : List Fx × List Ch) => eqL [AV.agg [AV.sl f.length 3 (fxG f), AV.sl c.length 4 (chG c)]] [AV.agg [AV.sl x.1.length 3 (fxG x.1), AV.sl x.2.length 4 (chG x.2)]] ∧ envP x) fun n => .all (fun (r : Int) => r = errE n.1 n.2) fun n => .ite (!decide (n = 0)) (.leaf (.ret [.agg [.nils, .nils], .int .i64 n] [.box [.sl f.length 3 (fxG f), .sl c.length 4 (chG c)], .box [.str a, .str v, .int .i64 d, .bool b], .box [.nils, .nils]])) (.ex (fun (x : List UInt8) => eqL [AV.str a] [AV.str x] ∧ x.length < 4611686018427387904) fun n => .all (fun (r : Bool) => r = zI n) fun n => .ex (fun (x : List UInt8) => (!n) = false → eqL [AV.str v] [AV.str x] ∧ x.length < 4611686018427387904) fun n_1 => .all (fun (x : Bool) => (!n) = false → x = zI n_1) fun n_2 => .ex (fun (x : Int) => (bif !n then true else !n_2) = false → eqL [AV.int .i64 d] [AV.int .i64 x] ∧ True) fun n_3 => .all (fun (x : Bool) => (bif !n then true else !n_2) = false → x = dayB n_3) fun n_4 => .ite (bif bif !n then true else !n_2 then true else !n_4) (.leaf (.ret [.agg [.nils, .nils], .int .i64 2] [.box [.sl f.length 3 (fxG f), .sl c.length 4 (chG c)], .box [.str a, .str v, .int .i64 d, .bool b], .box [.nils, .nils]])) (.ex (fun (x : List Ch × Ch) => eqL [AV.sl c.length 4 (chG c), AV.agg [AV.str a, AV.str v, AV.int .i64 d, AV.bool b], AV.fn 47 [] []] [AV.sl x.1.length 4 (chG x.1), AV.agg [AV.str x.2.zb, AV.str x.2.name, AV.int .i64 x.2.date, AV.bool x.2.first], AV.fn 47 [] []] ∧ x.1.length ≤ 1000 ∧ ordB cmpC Ch.nil x.1 = true) fun n => .all (fun (r : List Ch × Bool) => r = (zh cmpC n.2 n.1, decide (List.length (zh cmpC n.2 n.1) ≤ 1000))) fun n => .ite (!Prod.snd n) (.leaf (.ret [.agg [.nils, .nils], .int .i64 22] [.box [.sl f.length 3 (fxG f), .sl c.length 4 (chG c)], .box [.str a, .str v, .int .i64 d, .bool b], .box [.nils, .nils], .arr n.1.length 4 (chG n.1)])) (.ex (fun (x : List Fx) => eqL [AV.sl f.length 3 (fxG f)] [AV.sl x.length 3 (fxG x)] ∧ x.length < 1099511627776) fun n_5 => .all (fun (x : Unit) => True) fun n_6 => .leaf (.ret [.agg [.osl 4 3 0 n_5.length, .osl 3 4 0 n.1.length], .int .i64 0] [.box [.sl f.length 3 (fxG f), .sl c.length 4 (chG c)], .box [.str a, .str v, .int .i64 d, .bool b], .box [.osl 4 3 0 n_5.length, .osl 3 4 0 n.1.length], .arr n.1.length 4 (chG n.1), .arr n_5.length 3 (fxG n_5)]))))) (by kernel_rfl) ?_
 simp only [Tree.holds, ze]
 have bad : ∀ (e : Int) (h : Heap), putC f c ⟨a, v, d, b⟩ = (([], []), e) → RetR zbb 0 (upQ Q) [.agg [.nils, .nils], .int .i64 e] h := fun e h hr => by
  rw [hr] at hq
  exact Kq e h hq
 refine ⟨(f, c), ⟨by simp [za], he⟩, ⟨_, rfl⟩, ?_⟩
 rintro _ rfl
 refine ⟨fun h => ?_, fun h => ?_⟩
 ·have h : errE f c ≠ 0 := by simpa using h
  exact bad _ _ (by simp [putC, h])
 ·have h : errE f c = 0 := by simpa using h
  refine ⟨a, ⟨by simp, by omega⟩, ⟨_, rfl⟩, ?_⟩
  rintro _ rfl
  refine ⟨v, fun _ => ⟨by simp, by omega⟩, ⟨_, fun _ => rfl⟩, ?_⟩
  intro b1 g1
  refine ⟨d, fun _ => ⟨by simp, trivial⟩, ⟨_, fun _ => rfl⟩, ?_⟩
  intro b2 g2
  have key : (bif bif !zI a then true else !b1 then true else !b2) = !okC ⟨a, v, d, b⟩ := by
   simp only [okC]
   cases hn : zI a with
   | false => rfl
   | true =>
    have g1 := g1 (by rw [hn]; rfl)
    subst g1
    cases hv : zI v with
    | false => rfl
    | true => rw [g2 (by rw [hn, hv]; rfl)]; rfl
  rw [key]
  refine ⟨fun h2 => ?_, fun h2 => ?_⟩
  ·exact bad _ _ (by simp only [putC]; rw [if_neg (by simp [h]), if_pos (by simpa only [Bool.not_eq_true'] using h2)])
  ·have h2 : ¬ okC ⟨a, v, d, b⟩ = false := by simpa using h2
   obtain ⟨hb, _, _, _, ho⟩ := yN.1 h
   refine ⟨(c, ⟨a, v, d, b⟩), ⟨by simp [za], by show c.length ≤ 1000; omega, ho⟩, ⟨_, rfl⟩, ?_⟩
   rintro _ rfl
   refine ⟨fun h4 => ?_, fun h4 => ?_⟩
   ·have h4 : 1000 < (zh cmpC ⟨a, v, d, b⟩ c).length := by simpa using h4
    exact bad _ _ (by simp only [putC]; rw [if_neg (by simp [h]), if_neg h2, if_pos h4])
   ·have h4 : ¬ 1000 < (zh cmpC ⟨a, v, d, b⟩ c).length := by simpa using h4
    have hr : putC f c ⟨a, v, d, b⟩ = ((f, zh cmpC ⟨a, v, d, b⟩ c), 0) := by simp only [putC]; rw [if_neg (by simp [h]), if_neg h2, if_neg h4]
    rw [hr] at hq
    refine ⟨f, ⟨by simp [za], by omega⟩, ⟨(), trivial⟩, fun _ _ => ?_⟩
    refine RetR.outs [4, 3] rfl rfl (.inl hq) (fun _ => ⟨?_, ?_⟩) ?_ ?_ rfl
    ·simp [resV, new2, new1, new0, zp, zU]
    ·simp only [List.mem_cons, List.not_mem_nil, or_false, forall_eq_or_imp, forall_eq]
     exact ⟨uz (za _ _ _), uw (za _ _ _)⟩
    ·simp [resV, exp2, exp1, exp0, zp, ren0, eqA2, eqL1]
    ·exact ⟨⟨rfl, rfl, za _ _ _⟩, ⟨rfl, rfl, za _ _ _⟩, trivial⟩
end Go.Proofs.Try
end

/- Tables: what was put last is found, all else stays, and the order of different keys does not matter. -/
section
namespace Go.Nov
theorem Je : ∀ s t : List UInt8, Op.bytesLess s t = true ∨ s = t ∨ Op.bytesLess t s = true
 | [], [] => .inr (.inl rfl)
 | [], _ :: _ => .inl rfl
 | _ :: _, [] => .inr (.inr rfl)
 | a :: s, b :: t => by
  simp only [Op.bytesLess, Bool.or_eq_true, Bool.and_eq_true, decide_eq_true_eq, beq_iff_eq]
  by_cases h : a = b
  ·subst h
   rcases Je s t with g | g | g
   ·exact .inl (.inr ⟨rfl, g⟩)
   ·exact .inr (.inl (by rw [g]))
   ·exact .inr (.inr (.inr ⟨rfl, g⟩))
  ·rcases UInt8.lt_or_lt_of_ne h with g | g
   ·exact .inl (.inl g)
   ·exact .inr (.inr (.inl g))
structure OrdT {α : Type} (c : α → α → Int) : Prop extends OrdK c where
 irr : ∀ a, c a a = 0
 tot : ∀ a b, c a b < 0 ∨ c a b = 0 ∨ c b a < 0
 sym : ∀ a b, c a b = 0 → c b a = 0
 eqt : ∀ a b d, c a b = 0 → c b d = 0 → c a d = 0
 eq2 : ∀ a b d, c a b = 0 → c b d < 0 → c a d < 0
theorem yx : OrdT cmpF where
 toOrdK := QU
 irr a := by rw [qX]; exact ⟨rfl, rfl⟩
 tot a b := by
  rw [kF, qX, kF]
  rcases Je a.name b.name with h | h | h
  ·exact .inl (.inl h)
  ·rcases Int.lt_trichotomy a.date b.date with g | g | g
   ·exact .inl (.inr ⟨h, g⟩)
   ·exact .inr (.inl ⟨h, g⟩)
   ·exact .inr (.inr (.inr ⟨h.symm, g⟩))
  ·exact .inr (.inr (.inl h))
 sym a b h := by rw [qX] at h ⊢; exact ⟨h.1.symm, h.2.symm⟩
 eqt a b d h g := by rw [qX] at h g ⊢; exact ⟨h.1.trans g.1, h.2.trans g.2⟩
 eq2 a b d h g := by rw [qX] at h; rw [kF] at g ⊢; rw [h.1, h.2]; exact g
theorem yv : OrdT cmpC where
 toOrdK := J5
 irr a := by rw [qZ]; exact ⟨rfl, rfl, rfl⟩
 tot a b := by
  rw [xM, qZ, xM]
  rcases Je a.zb b.zb with h | h | h
  ·exact .inl (.inl h)
  ·rcases Je a.name b.name with k | k | k
   ·exact .inl (.inr ⟨h, .inl k⟩)
   ·rcases Int.lt_trichotomy a.date b.date with g | g | g
    ·exact .inl (.inr ⟨h, .inr ⟨k, g⟩⟩)
    ·exact .inr (.inl ⟨h, k, g⟩)
    ·exact .inr (.inr (.inr ⟨h.symm, .inr ⟨k.symm, g⟩⟩))
   ·exact .inr (.inr (.inr ⟨h.symm, .inl k⟩))
  ·exact .inr (.inr (.inl h))
 sym a b h := by rw [qZ] at h ⊢; exact ⟨h.1.symm, h.2.1.symm, h.2.2.symm⟩
 eqt a b d h g := by rw [qZ] at h g ⊢; exact ⟨h.1.trans g.1, h.2.1.trans g.2.1, h.2.2.trans g.2.2⟩
 eq2 a b d h g := by rw [qZ] at h; rw [xM] at g ⊢; rw [h.1, h.2.1, h.2.2]; exact g
section
variable {α : Type} {c : α → α → Int} {z x y : α} (hk : OrdT c)
theorem j7 {w : α} : ∀ {l : List α}, w ∈ zh c x l → w = x ∨ w ∈ l
 | [], h => by simp [zh] at h; exact .inl h
 | o :: l, h => by
  unfold zh at h
  split at h
  ·rcases List.mem_cons.1 h with rfl | h
   ·exact .inr (by simp)
   ·exact (j7 h).imp id fun g => by simp [g]
  ·split at h
   ·rcases List.mem_cons.1 h with rfl | h
    ·exact .inl rfl
    ·exact .inr (by simp [h])
   ·rcases List.mem_cons.1 h with rfl | h
    ·exact .inl rfl
    ·exact .inr h
include hk
theorem Y5 {a b : α} (h : c a b < 0) : ¬ c b a < 0 ∧ c b a ≠ 0 := by
 refine ⟨fun g => ?_, fun g => ?_⟩
 ·have := hk.lt a b a h g
  rw [hk.irr] at this; omega
 ·have := hk.sym b a g; omega
theorem zcg {a b : α} (h : ¬ c a b < 0) (g : c a b ≠ 0) : c b a < 0 := by
 rcases hk.tot a b with k | k | k
 ·exact absurd k h
 ·exact absurd k g
 ·exact k
theorem v8 : ∀ {l : List α}, l.Pairwise (fun a b => c a b < 0) → (zh c x l).Pairwise fun a b => c a b < 0
 | [], _ => by simp [zh]
 | o :: l, h => by
  obtain ⟨h1, h2⟩ := List.pairwise_cons.1 h
  unfold zh
  split
  ·rename_i g
   refine List.pairwise_cons.2 ⟨fun w hw => ?_, v8 h2⟩
   rcases j7 hw with rfl | hw
   ·exact g
   ·exact h1 w hw
  ·rename_i g
   split
   ·rename_i k
    exact List.pairwise_cons.2 ⟨fun w hw => hk.eq2 _ _ _ (hk.sym _ _ k) (h1 w hw), h2⟩
   ·rename_i k
    have := zcg hk g k
    refine List.pairwise_cons.2 ⟨fun w hw => ?_, h⟩
    rcases List.mem_cons.1 hw with rfl | hw
    ·exact this
    ·exact hk.lt _ _ _ this (h1 w hw)
theorem xl {k : α} {p : α → Bool} (hp : ∀ w, p w = decide (c w k = 0)) : ∀ l : List α, (zh c x l).find? p = if c x k = 0 then some x else l.find? p
 | [] => by
  simp only [zh, List.find?_cons, List.find?_nil, hp]
  by_cases h : c x k = 0 <;> simp [h]
 | o :: l => by
  unfold zh
  split
  ·rename_i g
   rw [List.find?_cons, xl hp l, List.find?_cons, hp o]
   by_cases h : c x k = 0
   ·have : c o k ≠ 0 := by have := hk.eq _ _ _ g h; omega
    simp [h, this]
   ·simp only [h, if_false]
  ·split
   ·rename_i g
    rw [List.find?_cons, List.find?_cons, hp x, hp o]
    by_cases h : c x k = 0
    ·simp [h]
    ·have : c o k ≠ 0 := fun h0 => h (hk.eqt _ _ _ (hk.sym _ _ g) h0)
     simp [h, this]
   ·rw [List.find?_cons, hp x]
    by_cases h : c x k = 0 <;> simp [h]
theorem xO {a : α} {l : List α} (h : c a x < 0) : zh c x (a :: l) = a :: zh c x l := by rw [zh, if_pos h]
theorem JL {a : α} {l : List α} (h : c a x = 0) : zh c x (a :: l) = x :: l := by rw [zh, if_neg (by omega), if_pos h]
theorem kf {a : α} {l : List α} (h : c x a < 0) : zh c x (a :: l) = x :: a :: l := by
 have := Y5 hk h
 rw [zh, if_neg this.1, if_neg this.2]
theorem Wm : ∀ {l : List α}, l.Pairwise (fun a b => c a b < 0) → ordB c z l = true := fun {l} h => by
 refine Zh fun j hj => ?_
 have := List.pairwise_iff_getElem.1 h j (j + 1) (by omega) hj (by omega)
 simpa [List.getD, List.getElem?_eq_getElem (show j < l.length by omega), List.getElem?_eq_getElem hj] using this
end
theorem Vq {f : List Fx} {c : List Ch} {x : Fx} (h : errE f c = 0) (hx : okF x = true) (hl : (zh cmpF x f).length ≤ 1000) : errE (zh cmpF x f) c = 0 := by
 obtain ⟨h1, h2, h3, h4, h5⟩ := yN.1 h
 refine yN.2 ⟨by omega, ?_, h3, Wm yx (v8 yx (xK QU h4)), h5⟩
 rw [List.all_eq_true] at h2 ⊢
 intro w hw
 rcases j7 hw with rfl | hw
 ·exact hx
 ·exact h2 w hw
theorem WC {f : List Fx} {c : List Ch} {x : Ch} (h : errE f c = 0) (hx : okC x = true) (hl : (zh cmpC x c).length ≤ 1000) : errE f (zh cmpC x c) = 0 := by
 obtain ⟨h1, h2, h3, h4, h5⟩ := yN.1 h
 refine yN.2 ⟨by omega, h2, ?_, h4, Wm yv (v8 yv (xK J5 h5))⟩
 rw [List.all_eq_true] at h3 ⊢
 intro w hw
 rcases j7 hw with rfl | hw
 ·exact hx
 ·exact h3 w hw
theorem yW {f : List Fx} {x : Fx} {a : List UInt8} {d : Int} : jP (zh cmpF x f) a d = if x.name = a ∧ x.date = d then (x.value, true) else jP f a d := by
 have hp : ∀ w : Fx, (decide (w.name = a) && decide (w.date = d)) = decide (cmpF w ⟨a, d, []⟩ = 0) := fun w => by
  have := qX (a := w) (b := ⟨a, d, []⟩)
  simp only at this
  by_cases g1 : w.name = a <;> by_cases g2 : w.date = d <;> simp [this, g1, g2]
 unfold jP
 rw [xl yx (k := ⟨a, d, []⟩) hp]
 have e := qX (a := x) (b := ⟨a, d, []⟩)
 simp only at e
 by_cases g : x.name = a ∧ x.date = d
 ·rw [if_pos (e.2 g), if_pos g]
 ·rw [if_neg fun k => g (e.1 k), if_neg g]
theorem kU {f : List Ch} {x : Ch} {p a : List UInt8} {d : Int} : qe (zh cmpC x f) p a d = if x.zb = p ∧ x.name = a ∧ x.date = d then x.first else qe f p a d := by
 have hp : ∀ w : Ch, (decide (w.zb = p) && (decide (w.name = a) && decide (w.date = d))) = decide (cmpC w ⟨p, a, d, false⟩ = 0) := fun w => by
  have := qZ (a := w) (b := ⟨p, a, d, false⟩)
  simp only at this
  by_cases g1 : w.zb = p <;> by_cases g2 : w.name = a <;> by_cases g3 : w.date = d <;> simp [this, g1, g2, g3]
 unfold qe
 rw [xl yv (k := ⟨p, a, d, false⟩) hp]
 have e := qZ (a := x) (b := ⟨p, a, d, false⟩)
 simp only at e
 by_cases g : x.zb = p ∧ x.name = a ∧ x.date = d
 ·rw [if_pos (e.2 g), if_pos g]
 ·rw [if_neg fun k => g (e.1 k), if_neg g]
theorem K7 {f : List Fx} {c : List Ch} {x : Fx} (h : (putF f c x).2 = 0) : errE f c = 0 ∧ okF x = true ∧ (zh cmpF x f).length ≤ 1000 ∧ putF f c x = ((zh cmpF x f, c), 0) := by
 unfold putF at h ⊢
 split at h
 ·rename_i g; exact absurd h g
 rename_i g1
 rw [if_neg g1]
 split at h
 ·cases h
 rename_i g2
 rw [if_neg g2]
 split at h
 ·rename_i g; exact absurd h g
 rename_i g3
 rw [if_neg g3]
 split at h
 ·cases h
 rename_i g4
 rw [if_neg g4]
 refine ⟨Classical.not_not.1 g1, ?_, by omega, rfl⟩
 unfold okF
 have : (zI x.name && dayB x.date) = true := by simpa using g2
 rw [this, Classical.not_not.1 g3]; rfl
theorem K2 {f : List Fx} {c : List Ch} {x : Ch} (h : (putC f c x).2 = 0) : errE f c = 0 ∧ okC x = true ∧ (zh cmpC x c).length ≤ 1000 ∧ putC f c x = ((f, zh cmpC x c), 0) := by
 unfold putC at h ⊢
 split at h
 ·rename_i g; exact absurd h g
 rename_i g1
 rw [if_neg g1]
 split at h
 ·cases h
 rename_i g2
 rw [if_neg g2]
 split at h
 ·cases h
 rename_i g4
 rw [if_neg g4]
 exact ⟨Classical.not_not.1 g1, by simpa using g2, by omega, rfl⟩
end Go.Nov
end

/- Two puts. -/
section
namespace Go.Nov
theorem ym {α : Type} {c : α → α → Int} {x : α} : ∀ l : List α, (zh c x l).length ≤ l.length + 1
 | [] => by simp [zh]
 | o :: l => by
  unfold zh
  split
  ·have := ym (c := c) (x := x) l
   simp only [List.length_cons]; omega
  ·split
   ·simp
   ·simp
theorem UP {f : List Fx} {c : List Ch} {x : Fx} (h : errE f c = 0) (hx : okF x = true) (hl : (zh cmpF x f).length ≤ 1000) : putF f c x = ((zh cmpF x f, c), 0) := by
 unfold okF at hx
 simp only [Bool.and_eq_true, decide_eq_true_eq] at hx
 unfold putF
 rw [if_neg (by rw [h]; simp), if_neg (by rw [hx.1.1, hx.1.2]; simp), if_neg (by rw [hx.2]; simp), if_neg (by omega)]
end Go.Nov
end

/- The store's state says what the log says. -/
section
namespace Go.Nov
open Go.Sx
def fixS (t : Int) (a y : Ev) : Ev := if y.target = t ∧ y.kind = 3 then { a with value := y.value } else if y.target = t ∧ y.kind = 4 then { a with first := y.first } else a
def vP (l : List Ev) (x : Ev) : Ev := l.foldl (fixS x.id) x
def latF (l : List Ev) (i : Nat) : Ev := if (l.getD i Ev.nil).fact && !wR l ((i : Int) + 1) then vP l (l.getD i Ev.nil) else Ev.nil
structure Inv (l : List Ev) (s : SS) : Prop where
 evs : s.evs = l
 ok : s.ok
 lat : ∀ i, i < l.length → s.lat.getD i Ev.nil = latF l i
 ids : ∀ i, i < l.length → (l.getD i Ev.nil).id = (i : Int) + 1
 val : ∀ i, i < l.length → (l.getD i Ev.nil).valid = true
 side : ∀ i, i < l.length → ((s.lat.getD i Ev.nil).kind = 1 → (s.lat.getD i Ev.nil).first = false) ∧ ((s.lat.getD i Ev.nil).kind = 2 → (s.lat.getD i Ev.nil).value = [])
theorem Up (t : Int) (a y : Ev) : (fixS t a y).key = a.key ∧ (fixS t a y).kind = a.kind := by
 unfold fixS
 split
 ·exact ⟨rfl, rfl⟩
 ·split <;> exact ⟨rfl, rfl⟩
theorem yL (t : Int) : ∀ (l : List Ev) (a : Ev), (l.foldl (fixS t) a).key = a.key ∧ (l.foldl (fixS t) a).kind = a.kind
 | [], a => ⟨rfl, rfl⟩
 | y :: l, a => by
  simp only [List.foldl_cons]
  rw [(yL t l _).1, (yL t l _).2]
  exact Up t a y
theorem qO (l : List Ev) (x : Ev) : (vP l x).key = x.key ∧ (vP l x).kind = x.kind := yL _ l x
theorem qb {e : Ev} : e.fact = true ↔ e.kind = 1 ∨ e.kind = 2 := by simp [Ev.fact]
theorem qI {e : Ev} (hv : e.valid = true) : e.fact = true ↔ ¬ 0 < e.target := by
 constructor
 ·intro hf
  unfold Ev.valid at hv
  rcases qb.1 hf with h | h
  ·rw [if_pos h] at hv
   simp only [Bool.and_eq_true, decide_eq_true_eq] at hv
   omega
  ·rw [if_neg (by omega), if_pos h] at hv
   simp only [Bool.and_eq_true, decide_eq_true_eq] at hv
   omega
 ·intro ht
  cases hf : e.fact with
  | true => rfl
  | false => have := VF hv hf; omega
theorem Qd {e : Ev} (hv : e.valid = true) : e.target < e.id := by
 unfold Ev.valid at hv
 simp only [Bool.and_eq_true, inB, decide_eq_true_eq] at hv
 obtain ⟨⟨⟨h1, h2⟩, h3⟩, h4⟩ := hv
 split at h4
 ·simp only [Bool.and_eq_true, decide_eq_true_eq] at h4; omega
 ·split at h4
  ·simp only [Bool.and_eq_true, decide_eq_true_eq] at h4; omega
  ·simp only [Bool.and_eq_true, decide_eq_true_eq] at h4; omega
theorem Qn {l : List Ev} {i : Nat} : (latF l i).kind = 0 ↔ ((l.getD i Ev.nil).fact = false ∨ wR l ((i : Int) + 1) = true) := by
 unfold latF
 cases hf : (l.getD i Ev.nil).fact with
 | false => simp
 | true =>
  cases hc : wR l ((i : Int) + 1) with
  | true => simp
  | false =>
   simp only [Bool.not_false, Bool.and_true, if_true, (qO _ _).2]
   have := qb.1 hf
   constructor
   ·intro g; omega
   ·rintro (g | g) <;> cases g
theorem kI {l : List Ev} {i : Nat} (h : (latF l i).kind ≠ 0) : latF l i = vP l (l.getD i Ev.nil) ∧ (l.getD i Ev.nil).fact = true ∧ wR l ((i : Int) + 1) = false := by
 have h' := fun g => h (Qn.2 g)
 have h1 : (l.getD i Ev.nil).fact = true := by
  cases hf : (l.getD i Ev.nil).fact with
  | true => rfl
  | false => exact absurd (.inl hf) h'
 have h2 : wR l ((i : Int) + 1) = false := by
  cases hf : wR l ((i : Int) + 1) with
  | false => rfl
  | true => exact absurd (.inr hf) h'
 refine ⟨?_, h1, h2⟩
 unfold latF
 rw [h1, h2]; rfl
theorem wQ {e : Ev} (hv : e.valid = true) (hf : e.fact = false) : e.kind = 3 ∨ e.kind = 4 ∨ e.kind = 5 := by
 have hf : ¬ e.kind = 1 ∧ ¬ e.kind = 2 := by simpa [Ev.fact] using hf
 unfold Ev.valid at hv
 rw [if_neg hf.1, if_neg hf.2] at hv
 by_cases h3 : e.kind = 3
 ·exact .inl h3
 ·by_cases h4 : e.kind = 4
  ·exact .inr (.inl h4)
  ·rw [if_neg h3, if_neg h4] at hv
   simp only [Bool.and_eq_true, decide_eq_true_eq] at hv
   exact .inr (.inr hv.2.2.1.1)
theorem zcb {l : List Ev} {s : SS} (I : Inv l s) (e : Ev) : s.errA e = accR l e := by
 have hlen := I.ok.len
 rw [I.evs] at hlen
 unfold SS.errA accR
 rw [I.evs]
 by_cases h1 : e.valid = false ∨ e.id ≠ l.length + 1
 ·rw [if_pos h1, if_pos h1]
 rw [if_neg h1, if_neg h1]
 by_cases h2 : 0 < l.length ∧ e.entry < (l.getD (l.length - 1) Ev.nil).entry
 ·rw [if_pos h2, if_pos h2]
 rw [if_neg h2, if_neg h2]
 by_cases h3 : 1000 ≤ l.length
 ·rw [if_pos h3, if_pos h3]
 rw [if_neg h3, if_neg h3]
 have hv : e.valid = true := by
  cases hv : e.valid
  ·exact absurd (.inl hv) h1
  ·rfl
 by_cases ht : 0 < e.target
 ·have hf : e.fact = false := by
   cases hf : e.fact with
   | false => rfl
   | true => exact absurd ht ((qI hv).1 hf)
  rw [if_pos ht, if_pos hf]
  unfold SS.errC
  by_cases hlt : (l.length : Int) < e.target
  ·rw [if_pos (.inl (by rw [hlen]; exact hlt)), if_pos (.inl hlt)]
  ·have hi : e.target.toNat - 1 < l.length := by omega
   have hx : s.fact e = latF l (e.target.toNat - 1) := I.lat _ hi
   have hc : ((e.target.toNat - 1 : Nat) : Int) + 1 = e.target := by omega
   have hk := Qn (l := l) (i := e.target.toNat - 1)
   rw [hc] at hk
   by_cases h6 : (s.fact e).kind = 0
   ·rw [if_pos (.inr h6)]
    rw [hx] at h6
    rcases hk.1 h6 with g | g
    ·rw [if_pos (.inr (.inl g))]
    ·rw [if_pos (.inr (.inr g))]
   ·have h6' := h6
    rw [hx] at h6'
    obtain ⟨q1, q2, q3⟩ := kI h6'
    rw [hc] at q3
    have nA : ¬ ((s.lat.length : Int) < e.target ∨ (s.fact e).kind = 0) := by
     rintro (g | g)
     ·exact hlt (by rw [← hlen]; exact g)
     ·exact h6 g
    have nB : ¬ ((l.length : Int) < e.target ∨ (l.getD (e.target.toNat - 1) Ev.nil).fact = false ∨ wR l e.target = true) := by
     rintro (g | g | g)
     ·exact hlt g
     ·rw [q2] at g; exact absurd g (by decide)
     ·rw [q3] at g; exact absurd g (by decide)
    rw [if_neg nA, if_neg nB]
    have hkk : (s.fact e).kind = (l.getD (e.target.toNat - 1) Ev.nil).kind := by rw [hx, q1, (qO _ _).2]
    rw [hkk]
    have hfk := qb.1 q2
    generalize (l.getD (e.target.toNat - 1) Ev.nil).kind = k at hfk
    clear hkk q1 q2 q3 hk hx h6 h6' hc nA nB
    rcases wQ hv hf with g | g | g <;> rcases hfk with hfk | hfk <;> subst hfk <;> rw [g] <;> decide
 ·have hf : e.fact = true := (qI hv).2 ht
  have nf : ¬ e.fact = false := by rw [hf]; decide
  rw [if_neg ht, if_neg nf]
  have : zq s.lat e.key = WQ l e l.length := by
   rw [Bool.eq_iff_iff, yO]
   unfold WQ
   rw [List.any_eq_true]
   constructor
   ·rintro ⟨j, hj, h1, h2⟩
    rw [hlen] at hj
    rw [I.lat j hj] at h1 h2
    obtain ⟨q1, q2, q3⟩ := kI h1
    rw [q1, (qO _ _).1] at h2
    refine ⟨j, List.mem_range.2 hj, ?_⟩
    rw [q3]
    simp only [Ev.key, List.cons.injEq, Sum.inl.injEq, Sum.inr.injEq, and_true] at h2
    simp [Yl, h2.1, h2.2.1, h2.2.2.1, h2.2.2.2, -List.getD_eq_getElem?_getD]
   ·rintro ⟨j, hj, h1⟩
    have hj := List.mem_range.1 hj
    simp only [Yl, Bool.and_eq_true, decide_eq_true_eq, Bool.not_eq_true'] at h1
    obtain ⟨⟨⟨⟨g1, g2⟩, g3⟩, g4⟩, g5⟩ := h1
    have hfj : (l.getD j Ev.nil).fact = true := qb.2 (by rw [g1]; exact qb.1 hf)
    have e1 : latF l j = vP l (l.getD j Ev.nil) := by unfold latF; rw [hfj, g5]; rfl
    refine ⟨j, by omega, ?_⟩
    rw [I.lat j hj, e1, (qO _ _).1, (qO _ _).2]
    refine ⟨?_, ?_⟩
    ·rcases qb.1 hfj with h | h <;> omega
    ·simp only [Ev.key, g1, g2, g3, g4]
  rw [this]
theorem xN {l : List Ev} {e : Ev} {t : Int} : wR (l ++ [e]) t = (wR l t || (decide (e.kind = 5) && decide (e.target = t))) := by
 simp [wR]
theorem kK {l : List Ev} {e x : Ev} : vP (l ++ [e]) x = fixS x.id (vP l x) e := by
 simp [vP, List.foldl_append]
theorem vn {l : List Ev} {e : Ev} {i : Nat} (h : i < l.length) : (l ++ [e]).getD i Ev.nil = l.getD i Ev.nil := by
 rw [js (by omega), if_pos h]
theorem kO {l : List Ev} {e : Ev} : (l ++ [e]).getD l.length Ev.nil = e := by
 rw [js (by omega), if_neg (by omega)]
theorem ZA {t : Int} : ∀ {l : List Ev} {a : Ev}, (∀ y ∈ l, y.target ≠ t) → l.foldl (fixS t) a = a
 | [], a, _ => rfl
 | y :: l, a, h => by
  simp only [List.foldl_cons]
  have : fixS t a y = a := by
   unfold fixS
   rw [if_neg (fun g => h y (by simp) g.1), if_neg (fun g => h y (by simp) g.1)]
  rw [this]
  exact ZA fun z hz => h z (by simp [hz])
theorem VI {l : List Ev} {s : SS} (I : Inv l s) : ∀ y ∈ l, y.target < (l.length : Int) := by
 intro y hy
 obtain ⟨j, hj, rfl⟩ := List.mem_iff_getElem.1 hy
 have h1 := I.ids j hj
 have h2 := Qd (I.val j hj)
 rw [zR hj] at h1 h2
 omega
theorem Qs {t : Int} {a y : Ev} (h : y.target ≠ t) : fixS t a y = a := by
 unfold fixS
 rw [if_neg (fun g => h g.1), if_neg (fun g => h g.1)]
theorem ke {e : Ev} (hv : e.valid = true) : (e.kind = 1 ∨ e.kind = 3 → e.first = false) ∧ (e.kind = 2 ∨ e.kind = 4 → e.value = []) := by
 unfold Ev.valid at hv
 simp only [Bool.and_eq_true] at hv
 have hv := hv.2
 constructor
 ·rintro (g | g)
  ·rw [if_pos g] at hv
   simp only [Bool.and_eq_true, Bool.not_eq_true'] at hv
   exact hv.2
  ·rw [if_neg (by omega), if_neg (by omega)] at hv
   simp only [Bool.and_eq_true] at hv
   have hv := hv.2
   rw [if_pos g] at hv
   simp only [Bool.and_eq_true, Bool.not_eq_true'] at hv
   exact hv.2
 ·rintro (g | g)
  ·rw [if_neg (by omega), if_pos g] at hv
   simp only [Bool.and_eq_true, decide_eq_true_eq] at hv
   exact hv.2
  ·rw [if_neg (by omega), if_neg (by omega)] at hv
   simp only [Bool.and_eq_true] at hv
   have hv := hv.2
   rw [if_neg (by omega), if_pos g] at hv
   exact of_decide_eq_true hv
theorem UT {l : List Ev} {s : SS} (I : Inv l s) {e : Ev} (h : s.errA e = 0) : Inv (l ++ [e]) (s.add e) := by
 have hlen := I.ok.len
 rw [I.evs] at hlen
 have h0 := h
 unfold SS.errA at h
 rw [I.evs] at h
 split at h
 ·cases h
 rename_i h1
 split at h
 ·cases h
 split at h
 ·cases h
 have hv : e.valid = true := by
  cases hv : e.valid
  ·exact absurd (.inl hv) h1
  ·rfl
 have hid : e.id = l.length + 1 := Decidable.byContradiction fun g => h1 (.inr g)
 have hevs : (s.add e).evs = l ++ [e] := by rw [(uo h0).1, I.evs]
 have htl := Qd hv
 refine ⟨hevs, WU I.ok e, fun i hi => ?_, fun i hi => ?_, fun i hi => ?_, fun i hi => ?_⟩
 ·simp only [List.length_append, List.length_cons, List.length_nil] at hi
  unfold SS.add
  rw [if_neg (by simpa using h0)]
  split at h
  ·rename_i ht
   rw [if_pos ht]
   have hf : e.fact = false := by
    cases hf : e.fact with
    | false => rfl
    | true => exact absurd ht ((qI hv).1 hf)
   have hcl := (u0 I.ok ht).2.1
   simp only
   rw [js (by omega), hcl, hlen]
   by_cases hil : i < l.length
   ·rw [if_pos hil]
    unfold SS.cor
    rw [if_pos h]
    simp only
    unfold SS.errC at h
    split at h
    ·cases h
    rename_i h6
    rw [not_or] at h6
    have hit : e.target.toNat - 1 < l.length := by omega
    rw [qU (by omega)]
    have hx : s.fact e = latF l (e.target.toNat - 1) := I.lat _ hit
    have hk := h6.2
    rw [hx] at hk
    obtain ⟨q1, q2, q3⟩ := kI hk
    by_cases hie : i = e.target.toNat - 1
    ·subst hie
     rw [if_pos rfl]
     have hc : ((e.target.toNat - 1 : Nat) : Int) + 1 = e.target := by omega
     rw [hc] at q3
     unfold latF SS.fixed
     rw [vn hit, q2, hc, xN, q3, kK, hx, q1]
     have hidx := I.ids _ hit
     by_cases h5 : e.kind = 5
     ·simp [h5]
     ·have : (e.kind = 3) ∨ (e.kind = 4) := by
       rcases wQ hv hf with g | g | g
       ·exact .inl g
       ·exact .inr g
       ·exact absurd g h5
      rw [if_neg h5]
      simp only [h5, decide_false, Bool.false_and, Bool.or_false, Bool.not_false, Bool.and_true, if_true]
      rw [if_neg h5] at h
      have hkk : (s.fact e).kind = (l.getD (e.target.toNat - 1) Ev.nil).kind := by rw [hx, q1, (qO _ _).2]
      have hsd := I.side _ hit
      rw [show s.lat.getD (e.target.toNat - 1) Ev.nil = s.fact e from rfl, hkk] at hsd
      rw [hkk] at h
      rw [hx, q1] at hsd
      have hvs := ke hv
      rw [hidx, hc]
      have hfk := qb.1 q2
      generalize vP l (l.getD (e.target.toNat - 1) Ev.nil) = x at hsd ⊢
      generalize (l.getD (e.target.toNat - 1) Ev.nil).kind = k at hsd h hfk
      unfold fixS
      rcases this with g | g
      ·rw [if_pos ⟨rfl, g⟩]
       have hk1 : k = 1 := by
        rcases hfk with rfl | rfl
        ·rfl
        ·rw [g] at h; exact absurd h (by decide)
       rw [hvs.1 (.inr g), ← hsd.1 hk1]
      ·have n3 : ¬ (e.target = e.target ∧ e.kind = 3) := fun q => by omega
       rw [if_neg n3, if_pos ⟨rfl, g⟩]
       have hk2 : k = 2 := by
        rcases hfk with rfl | rfl
        ·rw [g] at h; exact absurd h (by decide)
        ·rfl
       rw [hvs.2 (.inr g), ← hsd.2 hk2]
    ·rw [if_neg hie, I.lat i hil]
     unfold latF
     rw [vn hil, xN, kK]
     have hne : e.target ≠ (i : Int) + 1 := by omega
     have hidx := I.ids i hil
     simp only [hne, decide_false, Bool.and_false, Bool.or_false]
     rw [hidx, Qs hne]
   ·obtain rfl : i = l.length := by omega
    rw [if_neg hil]
    unfold latF
    rw [kO, hf]; rfl
  ·rename_i ht
   rw [if_neg ht]
   have hf : e.fact = true := (qI hv).2 ht
   simp only
   rw [js (by omega), hlen]
   by_cases hil : i < l.length
   ·rw [if_pos hil, I.lat i hil]
    unfold latF
    rw [vn hil, xN, kK]
    have hne : e.target ≠ (i : Int) + 1 := by omega
    have hidx := I.ids i hil
    simp only [hne, decide_false, Bool.and_false, Bool.or_false]
    rw [hidx, Qs hne]
   ·obtain rfl : i = l.length := by omega
    rw [if_neg hil]
    unfold latF
    have htg := VI I
    have hc : wR l ((l.length : Int) + 1) = false := by
     unfold wR
     rw [List.any_eq_false]
     intro y hy
     have := htg y hy
     simp only [Bool.and_eq_true, decide_eq_true_eq, not_and]
     intro _; omega
    rw [kO, hf, xN, hc]
    have : e.target ≠ (l.length : Int) + 1 := by omega
    simp only [this, decide_false, Bool.and_false, Bool.or_false, Bool.not_false, Bool.and_true, if_true]
    rw [kK]
    unfold vP
    rw [ZA (fun y hy => by have := htg y hy; omega)]
    unfold fixS
    rw [hid, if_neg (fun g => this g.1), if_neg (fun g => this g.1)]
 ·simp only [List.length_append, List.length_cons, List.length_nil] at hi
  by_cases hil : i < l.length
  ·rw [vn hil]; exact I.ids i hil
  ·obtain rfl : i = l.length := by omega
   rw [kO, hid]
 ·simp only [List.length_append, List.length_cons, List.length_nil] at hi
  by_cases hil : i < l.length
  ·rw [vn hil]; exact I.val i hil
  ·obtain rfl : i = l.length := by omega
   rw [kO, hv]
 ·simp only [List.length_append, List.length_cons, List.length_nil] at hi
  have nil : (Ev.nil.kind = 1 → Ev.nil.first = false) ∧ (Ev.nil.kind = 2 → Ev.nil.value = []) := ⟨fun _ => rfl, fun _ => rfl⟩
  unfold SS.add
  rw [if_neg (by simpa using h0)]
  split at h
  ·rename_i ht
   rw [if_pos ht]
   have hcl := (u0 I.ok ht).2.1
   simp only
   rw [js (by omega), hcl, hlen]
   by_cases hil : i < l.length
   ·rw [if_pos hil]
    unfold SS.cor
    rw [if_pos h]
    simp only
    unfold SS.errC at h
    split at h
    ·cases h
    rename_i h6
    rw [not_or] at h6
    have hit : e.target.toNat - 1 < l.length := by omega
    rw [qU (by omega)]
    by_cases hie : i = e.target.toNat - 1
    ·rw [if_pos hie]
     unfold SS.fixed
     by_cases h5 : e.kind = 5
     ·rw [if_pos h5]; exact nil
     ·rw [if_neg h5] at h ⊢
      have hvs := ke hv
      have hf : e.fact = false := by
       cases hf : e.fact with
       | false => rfl
       | true => exact absurd ht ((qI hv).1 hf)
      simp only
      rcases wQ hv hf with g | g | g
      ·refine ⟨fun _ => hvs.1 (.inr g), fun q => ?_⟩
       rw [g, q] at h; exact absurd h (by decide)
      ·refine ⟨fun q => ?_, fun _ => hvs.2 (.inr g)⟩
       rw [g, q] at h; exact absurd h (by decide)
      ·exact absurd g h5
    ·rw [if_neg hie]; exact I.side i hil
   ·rw [if_neg hil]; exact nil
  ·rename_i ht
   rw [if_neg ht]
   simp only
   rw [js (by omega), hlen]
   by_cases hil : i < l.length
   ·rw [if_pos hil]; exact I.side i hil
   ·rw [if_neg hil]
    have hvs := ke hv
    exact ⟨fun g => hvs.1 (.inl g), fun g => hvs.2 (.inl g)⟩
theorem inv0 : Inv [] ⟨[], []⟩ := ⟨rfl, Ve, fun i h => by simp at h, fun i h => by simp at h, fun i h => by simp at h, fun i h => by simp at h⟩
theorem WE : ∀ {r l : List Ev} {s : SS}, Inv l s → (match s.play r with
  | some t => Inv (l ++ r) t ∧ ∀ j, j < r.length → accR (l ++ r.take j) (r.getD j Ev.nil) = 0
  | none => ∃ j, j < r.length ∧ accR (l ++ r.take j) (r.getD j Ev.nil) ≠ 0)
 | [], l, s, I => by simp only [SS.play]; exact ⟨by simpa using I, fun j h => by simp at h⟩
 | e :: r, l, s, I => by
  simp only [SS.play]
  have ha := zcb I e
  by_cases g : s.errA e = 0
  ·rw [if_pos g]
   have h := WE (r := r) (UT I g)
   have e1 : ∀ j, l ++ [e] ++ r.take j = l ++ (e :: r).take (j + 1) := fun j => by simp
   cases hp : (s.add e).play r with
   | none =>
    rw [hp] at h
    obtain ⟨j, h1, h2⟩ := h
    exact ⟨j + 1, by simpa using h1, by rw [← e1]; simpa using h2⟩
   | some t =>
    rw [hp] at h
    refine ⟨by simpa using h.1, fun j hj => ?_⟩
    cases j with
    | zero => simpa using ha.symm.trans g
    | succ j =>
     have := h.2 j (by simpa using hj)
     rw [e1] at this
     simpa using this
  ·rw [if_neg g]
   exact ⟨0, by simp, by simpa using fun q => g (ha.trans q)⟩
theorem wv {l : List Ev} : (SS.play ⟨[], []⟩ l).isSome = VQ l ∧ ∀ t, SS.play ⟨[], []⟩ l = some t → Inv l t := by
 have h := WE (r := l) inv0
 cases hp : SS.play ⟨[], []⟩ l with
 | none =>
  rw [hp] at h
  obtain ⟨j, h1, h2⟩ := h
  refine ⟨?_, fun t ht => by cases ht⟩
  symm
  unfold VQ
  rw [Option.isSome_none, List.all_eq_false]
  exact ⟨j, List.mem_range.2 h1, by simpa using h2⟩
 | some t =>
  rw [hp] at h
  refine ⟨?_, fun t' ht => by cases ht; simpa using h.1⟩
  symm
  unfold VQ
  rw [Option.isSome_some, List.all_eq_true]
  exact fun j hj => by simpa using h.2 j (List.mem_range.1 hj)
end Go.Nov
end

/- What is known from a log, plain. -/
section
namespace Go.Nov
open Go.Sx
abbrev EnvL := List Fx × List Ch
def vN (d : Option Int) (x : Ev) : Bool := match d with
 | none => true
 | some d => decide (x.date ≤ d)
def Ev.fx (x : Ev) : Fx := ⟨x.name, x.date, x.value⟩
def Ev.ch (x : Ev) : Ch := ⟨x.zb, x.name, x.date, x.first⟩
def qJ (d : Option Int) (v : EnvL) (x : Ev) : EnvL × Int :=
 if (decide (x.kind = 0) || !vN d x) = true then (v, 0) else if x.kind = 1 then putF v.1 v.2 x.fx else putC v.1 v.2 x.ch
def qR (d : Option Int) : List Ev → EnvL → EnvL × Int
 | [], v => (v, 0)
 | x :: r, v => if (qJ d v x).2 ≠ 0 then (([], []), (qJ d v x).2) else qR d r (qJ d v x).1
def cutE (l : List Ev) (entry : Int) : Nat := l.findIdx fun e => decide (entry < e.entry)
def zw (l : List Ev) (entry : Int) (d : Option Int) : EnvL × Int :=
 if (SS.play ⟨[], []⟩ l).isSome = false then (([], []), 8)
 else if entry < 0 ∨ 1125899906842624 < entry then (([], []), 2)
 else match SS.play ⟨[], []⟩ (l.take (cutE l entry)) with
  | some s => qR d s.lat ([], [])
  | none => (([], []), 0)
theorem Z4 : ∀ {a b : List Ev} {s : SS}, s.play (a ++ b) = (s.play a).bind fun t => t.play b
 | [], b, s => rfl
 | e :: a, b, s => by
  simp only [List.cons_append, SS.play]
  split
  ·exact Z4
  ·rfl
theorem QA {l : List Ev} {s : SS} (h : (s.play l).isSome = true) (n : Nat) : (s.play (l.take n)).isSome = true := by
 rw [← List.take_append_drop n l, Z4] at h
 cases hp : s.play (l.take n) with
 | some t => rfl
 | none => rw [hp] at h; cases h
theorem WZ {d : Option Int} {l : List Ev} {i : Nat} (h : i < l.length) (v : EnvL) : qR d (l.drop i) v = if (qJ d v (l.getD i Ev.nil)).2 ≠ 0 then (([], []), (qJ d v (l.getD i Ev.nil)).2) else qR d (l.drop (i + 1)) (qJ d v (l.getD i Ev.nil)).1 := by
 rw [List.drop_eq_getElem_cons h, zR h]
 rfl
end Go.Nov
namespace Go.Nov
theorem bifO (x y : Bool) : (bif x then true else y) = (x || y) := by cases x <;> rfl
theorem bifA (x y : Bool) : (bif x then y else false) = (x && y) := by cases x <;> rfl
end Go.Nov
namespace Go.Nov
end Go.Nov
namespace Go.Nov
end Go.Nov
namespace Go.Nov
def lenE (v : EnvL) : Prop := v.1.length ≤ 1000 ∧ v.2.length ≤ 1000
theorem Yg {d : Option Int} {v : EnvL} {x : Ev} (h : lenE v) (h0 : (qJ d v x).2 = 0) : lenE (qJ d v x).1 := by
 unfold qJ at h0 ⊢
 split
 ·exact h
 ·rename_i g
  rw [if_neg g] at h0
  split
  ·rename_i k
   rw [if_pos k] at h0
   obtain ⟨_, _, a3, a4⟩ := K7 h0
   rw [a4]; exact ⟨a3, h.2⟩
  ·rename_i k
   rw [if_neg k] at h0
   obtain ⟨_, _, a3, a4⟩ := K2 h0
   rw [a4]; exact ⟨h.1, a3⟩
theorem WB {d : Option Int} : ∀ {l : List Ev} {v : EnvL}, lenE v → lenE (qR d l v).1
 | [], v, h => h
 | x :: l, v, h => by
  simp only [qR]
  split
  ·exact ⟨Nat.zero_le _, Nat.zero_le _⟩
  ·rename_i g
   exact WB (Yg h (by simpa using g))
theorem yl (l : List Ev) (tm : Int) (d : Option Int) : lenE (zw l tm d).1 := by
 unfold zw
 split
 ·exact ⟨Nat.zero_le _, Nat.zero_le _⟩
 ·split
  ·exact ⟨Nat.zero_le _, Nat.zero_le _⟩
  ·split
   ·exact WB ⟨Nat.zero_le _, Nat.zero_le _⟩
   ·exact ⟨Nat.zero_le _, Nat.zero_le _⟩
end Go.Nov
end

/- The store: closures, the first event behind a time, frozen puts. -/
section
set_option maxRecDepth 100000
open Go Go.Sx Go.Proofs Go.Nov
namespace Go.Proofs.Try
attribute [local simp] eqKV eqA eqA0 eqH eqB eqL eqL0
noncomputable def K57 : List Go.Sx.Item := [.code (Try.f57.body.getD .skip)]
theorem Kx {f : List Fx} {c : List Ch} {z : Int} : LeA (exp2 [.arr f.length 3 (fxG f), .arr c.length 4 (chG c)] [] (.tup [.agg [.osl 0 3 0 f.length, .osl 1 4 0 c.length], .int .i64 z])) (.tup [envA f c, .int .i64 z]) := by
 refine zN ?_
 simp [exp2, exp1, exp0, zp, frz1, qM, ren0, eqA2, eqL1, envA, fxS, chS, vq]
theorem Kb {f : List Fx} {c : List Ch} {z : Int} : new2 [.arr f.length 3 (fxG f), .arr c.length 4 (chG c)] [] (.tup [.agg [.osl 0 3 0 f.length, .osl 1 4 0 c.length], .int .i64 z]) := by
 simp only [new2, List.mem_cons, List.not_mem_nil, or_false, forall_eq_or_imp, forall_eq, new1, new0]
 refine ⟨⟨fun _ => ?_, fun _ => ?_⟩, rfl⟩
 ·simp only [exp0, zp, frz1, qM, List.getElem?_cons_zero, if_true, uA]
  exact fun j o hj ho => QD _ _ _ ho
 ·simp only [exp0, zp, frz1, qM, List.getElem?_cons_succ, List.getElem?_cons_zero, if_true, uA]
  exact fun j o hj ho => QP _ _ _ ho
def zbm : Ctr := ctrP true (fun p : (List Fx × List Ch) × Fx => [envA p.1.1 p.1.2, p.2.av]) (fun p => envP p.1 ∧ jb p.2) (fun p r => r = putF p.1.1 p.1.2 p.2) (fun _ (r : (List Fx × List Ch) × Int) => (.tup [envA r.1.1 r.1.2, .int .i64 r.2], []))
def zbc : Ctr := ctrP true (fun p : (List Fx × List Ch) × Ch => [envA p.1.1 p.1.2, p.2.av]) (fun p => envP p.1 ∧ je p.2) (fun p r => r = putC p.1.1 p.1.2 p.2) (fun _ (r : (List Fx × List Ch) × Int) => (.tup [envA r.1.1 r.1.2, .int .i64 r.2], []))
theorem zan : zd Try.prog 59 zbm := zd.frozen zae (fun _ _ _ _ => Kb) (fun _ _ _ _ => Kx)
theorem UH : zd Try.prog 60 zbc := zd.frozen U8 (fun _ _ _ _ => Kb) (fun _ _ _ _ => Kx)
theorem um {f : List Fx} {c : List Ch} (h1 : f.length < 2 ^ 40) (h2 : c.length < 2 ^ 40) (h3 : ∀ x ∈ f, jb x) (h4 : ∀ x ∈ c, je x) : envP (f, c) := by
 refine ⟨h1, h2, fun j hj => h3 _ ?_, fun j hj => h4 _ ?_⟩
 ·have : j < f.length := hj
  simp [List.getD, this]
 ·have : j < c.length := hj
  simp [List.getD, this]
theorem Wq {f : List Fx} {c : List Ch} (h : envP (f, c)) : (∀ x ∈ f, jb x) ∧ ∀ x ∈ c, je x := by
 refine ⟨fun x hx => ?_, fun x hx => ?_⟩
 ·obtain ⟨j, hj, rfl⟩ := List.mem_iff_getElem.1 hx
  have := h.2.2.1 j hj
  simpa [List.getD, hj] using this
 ·obtain ⟨j, hj, rfl⟩ := List.mem_iff_getElem.1 hx
  have := h.2.2.2 j hj
  simpa [List.getD, hj] using this
theorem Ug {f : List Fx} {c : List Ch} {x : Fx} (h : envP (f, c)) (hx : jb x) (hp : (putF f c x).2 = 0) : envP (putF f c x).1 := by
 obtain ⟨a1, a2, a3, a4⟩ := K7 hp
 rw [a4]
 obtain ⟨m1, m2⟩ := Wq h
 refine um (Nat.lt_of_le_of_lt a3 (by decide)) h.2.1 (fun y hy => ?_) m2
 rcases j7 hy with rfl | g
 ·exact hx
 ·exact m1 _ g
theorem XW {f : List Fx} {c : List Ch} {x : Ch} (h : envP (f, c)) (hx : je x) (hp : (putC f c x).2 = 0) : envP (putC f c x).1 := by
 obtain ⟨a1, a2, a3, a4⟩ := K2 hp
 rw [a4]
 obtain ⟨m1, m2⟩ := Wq h
 refine um h.1 (Nat.lt_of_le_of_lt a3 (by decide)) m1 (fun y hy => ?_)
 rcases j7 hy with rfl | g
 ·exact hx
 ·exact m2 _ g
def kv1C : Ctr := ctrP true (fun e : Ev => [e.av]) (fun _ => True) (fun e r => r = true) (fun _ (r : Bool) => (.bool r, []))
theorem zc3 : zd Try.prog 35 kv1C := by
 refine zm (fn := Try.f35) (c := Try.f35.body.getD .skip) rfl rfl rfl fun e hp O w0 Q hq => ?_
 replace hq := hq _ rfl
 refine zc.run hmix z7 [] 400 (T := .leaf (.ret [.bool true] [.box [.int .u8 e.kind, .int .i64 e.id, .int .i64 e.entry, .int .i64 e.target, .int .i64 e.date, .str e.zb, .str e.name, .str e.value, .bool e.first]])) (by kernel_rfl) ?_
 simp only [Tree.holds, ze]
 exact RetR.scal hq rfl rfl
def kk1C : Ctr := ctrT false false (fun p : Ev × Int => [p.1.av, .ptr 0 0]) (fun p => [.box [.int .i64 p.2]]) (fun _ => True) (fun p r => r = decide (p.2 < p.1.entry)) (fun p (r : Bool) => (.bool r, [.box [.int .i64 p.2]]))
theorem zcc : zd Try.prog 58 kk1C := by
 refine jH (fn := Try.f58) (c := Try.f58.body.getD .skip) rfl rfl rfl (fun h => by cases h) fun p hp O w0 σ0 Q hl0 hq => ?_
 obtain ⟨e, d⟩ := p
 replace hq := hq _ rfl
 refine zc.run hmix z7 [] 400 (T := .leaf (.ret [.bool (decide (d < Ev.entry e))] [.box [.int .i64 d], .box [.int .u8 e.kind, .int .i64 e.id, .int .i64 e.entry, .int .i64 e.target, .int .i64 e.date, .str e.zb, .str e.name, .str e.value, .bool e.first]])) (by kernel_rfl) ?_
 simp only [Tree.holds, ze]
 exact RetR.keep [0] rfl rfl (by show ∀ j, j < 1 → _; decide) rfl hq (by simp [resV, exp2, exp1, exp0, ren0, eqA2]) (by simp [expH, expB, exp1, exp0, ren0]) rfl
def SIe (l : List Ev) (i : Nat) : KV := [(0, evS l), (1, .fn 58 [] [.ptr 0 0]), (7, .int .i64 (l.length : Int)), (8, .int .i64 (i : Int))]
def ixEC : Ctr := ctrT false false (fun p : List Ev × Int => [evS p.1, .fn 58 [] [.ptr 0 0]]) (fun p => [.box [.int .i64 p.2]]) (fun p => p.1.length < 2 ^ 40) (fun p r => r = idxB (fun x => decide (p.2 < x.entry)) p.1) (fun p (r : Int) => (.int .i64 r, [.box [.int .i64 p.2]]))
noncomputable def GIe : Nat → Option Ctr := fun f => if f = 58 then some (kk1C) else none
theorem YK : ∀ g c, GIe g = some c → zd Try.prog g c := okIf zcc (zu)
theorem zbs : zd Try.prog 57 ixEC := by
 refine jH (fn := Try.f57) (c := Try.f57.body.getD .skip) rfl rfl rfl (fun h => by cases h) fun p hl O w0 σ0 Q hl0 hq => ?_
 obtain ⟨l, x⟩ := p
 replace hq := hq _ rfl
 simp only at hq hl
 refine zc.run hmix YK [0, 1, 7, 8] 400 (T := .leaf (.loop (Prod.fst (lps K57 0)) (Prod.snd (lps K57 0)) [(0, .sl l.length 9 (evG l)), (1, .fn 58 [] [.ptr 0 0]), (7, .int .i64 l.length), (8, .int .i64 0)] [.box [.int .i64 x]])) (by kernel_rfl) ?_
 simp only [Tree.holds, ze]
 have fin : ∀ (i : Int) (h rest : Heap), i = idxB (fun y : Ev => decide (x < y.entry)) l → h = .box [.int .i64 x] :: rest → RetR ixEC 1 Q [.int .i64 i] h := by
  intro i h rest hi2 hh
  subst hh
  rw [← hi2] at hq
  exact RetR.keep [0] rfl (by simp) (by show ∀ j, j < 1 → _; decide) rfl hq (by simp [resV, exp2, exp1, exp0, ren0, eqA2]) (by simp [expH, expB, exp1, exp0, ren0]) rfl
 refine zc.loop (ι := {i : Nat // i ≤ l.length ∧ ∀ j, j < i → decide (x < (l.getD j Ev.nil).entry) = false}) (fun i => SIe l i.1) (fun _ => [.box [.int .i64 x]]) (fun i => l.length - i.1) ⟨0, Nat.zero_le _, fun j hj => by omega⟩ 0 ?_ ?_ (by kernel_rfl)
 ·exact ⟨by simp [SIe, evS, za], by simp, by kernel_rfl, Nat.le_refl _⟩
 ·rintro ⟨i, hil, hib⟩
  refine zc.run hmix YK [0, 1, 7, 8] 400 (T := .ite (decide ((↑i : Int) < l.length)) (.side ((0 : Int) ≤ i ∧ (↑i : Int) < l.length) (.ex (fun (x_1 : Ev × Int) => eqL [AV.agg [AV.int .u8 (Ev.kind (List.getD l (Int.toNat (↑i : Int)) Ev.nil)), AV.int .i64 (Ev.id (List.getD l (Int.toNat (↑i : Int)) Ev.nil)), AV.int .i64 (Ev.entry (List.getD l (Int.toNat (↑i : Int)) Ev.nil)), AV.int .i64 (Ev.target (List.getD l (Int.toNat (↑i : Int)) Ev.nil)), AV.int .i64 (Ev.date (List.getD l (Int.toNat (↑i : Int)) Ev.nil)), AV.str (Ev.zb (List.getD l (Int.toNat (↑i : Int)) Ev.nil)), AV.str (Ev.name (List.getD l (Int.toNat (↑i : Int)) Ev.nil)), AV.str (Ev.value (List.getD l (Int.toNat (↑i : Int)) Ev.nil)), AV.bool (Ev.first (List.getD l (Int.toNat (↑i : Int)) Ev.nil))], AV.ptr 0 0] [AV.agg [AV.int .u8 x_1.1.kind, AV.int .i64 x_1.1.id, AV.int .i64 x_1.1.entry, AV.int .i64 x_1.1.target, AV.int .i64 x_1.1.date, AV.str x_1.1.zb, AV.str x_1.1.name, AV.str x_1.1.value, AV.bool x_1.1.first], AV.ptr 0 0] ∧ eqH [.box [AV.int .i64 x]] [.box [AV.int .i64 x_1.2]] ∧ 1 = 1 ∧ True) fun n => .all (fun (r : Bool) => r = decide (n.2 < Ev.entry n.1)) fun n_1 => .ite n_1 (.leaf (.ret [.int .i64 i] [.box [.int .i64 n.2]])) (.side (inR .i64 ((↑i : Int) + (1 : Int))) (.leaf (.back 0 [(0, .sl l.length 9 (evG l)), (1, .fn 58 [] [.ptr 0 0]), (7, .int .i64 l.length), (8, .int .i64 ((↑i : Int) + (1 : Int)))] [.box [.int .i64 n.2]]))))) (.leaf (.ret [.int .i64 (-1 : Int)] [.box [.int .i64 x]]))) (by kernel_rfl) ?_
  simp only [Tree.holds, ze, inR, lo, hi, Int.toNat_natCast]
  refine ⟨fun hlt => ?_, fun hge => ?_⟩
  ·have hlt : i < l.length := by have := of_decide_eq_true hlt; omega
   refine ⟨by omega, fun _ => ⟨(l.getD i Ev.nil, x), ⟨by simp [Ev.av], by simp, trivial, trivial⟩, ⟨_, rfl⟩, ?_⟩⟩
   rintro _ rfl
   refine ⟨fun h => ?_, fun h => ⟨by omega, fun _ => ?_⟩⟩
   ·exact fin _ _ _ (xL hlt h hib).symm rfl
   ·rw [if_pos trivial]
    refine ⟨⟨i + 1, hlt, fun j hj => ?_⟩, by show l.length - (i + 1) < l.length - i; omega, by simp [SIe, evS, za], by simp, by kernel_rfl, Nat.le_refl _⟩
    rcases Nat.lt_or_ge j i with h1 | h1
    ·exact hib j h1
    ·have : j = i := by omega
     rw [this]; exact h
  ·have hge : i = l.length := by have := of_decide_eq_false hge; omega
   subst hge
   exact fin _ _ _ (vf (p := fun y : Ev => decide (x < y.entry)) hib).symm rfl
end Go.Proofs.Try
end
