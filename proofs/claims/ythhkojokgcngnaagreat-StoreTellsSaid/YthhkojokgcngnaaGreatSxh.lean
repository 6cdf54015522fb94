/- The law returns true for every input, and each argument reads afterwards as it read before; no condition. -/
import Derived.Test.YthhkojokgcngnaaGreatSxg
import Derived.SizedLaws
import Derived.ChangeArms
import Derived.Deep.Slices
import Derived.Carry
import Derived.LaidMore
import Derived.WideKeyElems2
import Derived.ProofKit
import Derived.OpenShut
import Derived.ReadAgain
import Derived.Test.YthhkojokgcngnaaGreatRows
set_option linter.unusedVariables false
set_option linter.unusedSimpArgs false
set_option linter.unusedSectionVars false

/- The reference's view of a log. -/
section
namespace Go.Nov
def qk (l : List Ev) (tm : Int) : List Ev := l.filter fun e => decide (e.entry ≤ tm)
def wW (l : List Ev) : List Ev := ((List.range l.length).filter fun i => (l.getD i Ev.nil).fact && !zY l ((i : Int) + 1)).map fun i => jC l (l.getD i Ev.nil)
def vT (l : List Ev) (d : Int) : EnvL := l.foldl (fun v e => if d < e.date then v else if e.kind = 1 then (putF v.1 v.2 e.fx).1 else (putC v.1 v.2 e.ch).1) ([], [])
def jJ (l : List Ev) (tm d : Int) : EnvL × Int := if jb l = false then (([], []), 8) else if ¬ (0 ≤ tm ∧ tm ≤ 1125899906842624) ∨ ¬ (0 ≤ d ∧ d ≤ 99999) then (([], []), 2) else (vT (wW (qk l tm)) d, 0)
theorem Ye {l : List Ev} {s : SS} (I : Inv l s) : wW l = s.lat.filter fun x => decide (x.kind ≠ 0) := by
 have hlen := I.ok.len
 rw [I.evs] at hlen
 have e1 : s.lat = (List.range l.length).map (latF l) := by
  refine zf6 (by simp [hlen]) fun i hi => ?_
  rw [I.lat i (by omega), zK (by simp; omega)]
  simp
 rw [e1, List.filter_map]
 unfold wW
 have e2 : (List.range l.length).filter (fun i => (l.getD i Ev.nil).fact && !zY l ((i : Int) + 1)) = (List.range l.length).filter ((fun x : Ev => decide (x.kind ≠ 0)) ∘ latF l) := by
  refine List.filter_congr fun i _ => ?_
  have := um (l := l) (i := i)
  simp only [Function.comp_apply]
  rw [Bool.eq_iff_iff, Bool.and_eq_true, Bool.not_eq_true', decide_eq_true_eq]
  constructor
  ·rintro ⟨h1, h2⟩ h3
   rcases this.1 h3 with g | g
   ·rw [h1] at g; cases g
   ·rw [h2] at g; cases g
  ·intro h
   obtain ⟨_, h2, h3⟩ := xf h
   exact ⟨h2, h3⟩
 rw [e2]
 refine List.map_congr_left fun i hi => ?_
 have := (List.mem_filter.1 hi).2
 simp only [Function.comp_apply, decide_eq_true_eq] at this
 exact (xf this).1.symm
theorem wK {d : Int} : ∀ {L : List Ev} {f : List Fx} {c : List Ch}, errE f c = 0 → (∀ x ∈ L, Vn x) → f.length + L.length ≤ 1000 → c.length + L.length ≤ 1000 →
  (L.filter fun x => decide (x.kind ≠ 0)).foldl (fun v e => if d < e.date then v else if e.kind = 1 then (putF v.1 v.2 e.fx).1 else (putC v.1 v.2 e.ch).1) (f, c) = (zJ (some d) L (f, c)).1
 | [], f, c, _, _, _, _ => rfl
 | x :: L, f, c, h, hg, h1, h2 => by
  simp only [List.length_cons] at h1 h2
  have hgx := hg x (by simp)
  have hgL : ∀ y ∈ L, Vn y := fun y hy => hg y (by simp [hy])
  have skip : zF (some d) (f, c) x = ((f, c), 0) → zJ (some d) (x :: L) (f, c) = zJ (some d) L (f, c) := fun e => by rw [zJ, e, if_neg (by simp)]
  by_cases k0 : x.kind = 0
  ·rw [List.filter_cons_of_neg (by simp [k0]), skip (by unfold zF; rw [if_pos (by simp [k0])])]
   exact wK h hgL (by omega) (by omega)
  ·rw [List.filter_cons_of_pos (by simp [k0])]
   simp only [List.foldl_cons]
   by_cases hd : d < x.date
   ·rw [if_pos hd, skip (by unfold zF; rw [if_pos (by simp [wL]; right; exact hd)])]
    exact wK h hgL (by omega) (by omega)
   ·rw [if_neg hd]
    have hk : wL (some d) x = true := by simp [wL]; omega
    rcases hgx with k | ⟨k, ok⟩ | ⟨k, ok⟩
    ·exact absurd k k0
    ·have hl := v5 (c := cmpF) (x := x.fx) f
     have hp : putF f c x.fx = ((zo cmpF x.fx f, c), 0) := Xj h ok (by omega)
     have hs : zF (some d) (f, c) x = ((zo cmpF x.fx f, c), 0) := by
      unfold zF
      rw [if_neg (by simp [k, hk]), if_pos k]; exact hp
     rw [if_pos k, hp, zJ, hs, if_neg (by simp)]
     exact wK (ZE h ok (by omega)) hgL (by omega) (by omega)
    ·have hl := v5 (c := cmpC) (x := x.ch) c
     have hp : putC f c x.ch = ((f, zo cmpC x.ch c), 0) := by
      unfold putC
      rw [if_neg (by simpa using h), if_neg (by rw [ok]; decide), if_neg (by omega)]
     have hs : zF (some d) (f, c) x = ((f, zo cmpC x.ch c), 0) := by
      unfold zF
      rw [if_neg (by simp [k, hk]), if_neg (by omega)]; exact hp
     rw [if_neg (by omega), hp, zJ, hs, if_neg (by simp)]
     exact wK (uQ h ok (by omega)) hgL (by omega) (by omega)
end Go.Nov
namespace Go.Nov
theorem VM {l : List Ev} (h : jb l = true) {j : Nat} (hj : j + 1 < l.length) : (l.getD j Ev.nil).entry ≤ (l.getD (j + 1) Ev.nil).entry := by
 unfold jb at h
 have := of_decide_eq_true (List.all_eq_true.1 h (j + 1) (List.mem_range.2 hj))
 unfold accR at this
 split at this
 ·cases this
 split at this
 ·cases this
 rename_i g
 have hl : (l.take (j + 1)).length = j + 1 := by rw [List.length_take]; omega
 rw [hl] at g
 have e : (l.take (j + 1)).getD (j + 1 - 1) Ev.nil = l.getD j Ev.nil := by
  simp only [List.getD]
  rw [List.getElem?_take, if_pos (by omega)]; rfl
 rw [e] at g
 omega
theorem Kr {l : List Ev} (h : jb l = true) : ∀ {i j : Nat}, i ≤ j → j < l.length → (l.getD i Ev.nil).entry ≤ (l.getD j Ev.nil).entry := by
 intro i j hij hj
 induction j with
 | zero => rw [show i = 0 by omega]; exact Int.le_refl _
 | succ j ih =>
  rcases Nat.lt_or_ge j i with g | g
  ·rw [show i = j + 1 by omega]; exact Int.le_refl _
  ·exact Int.le_trans (ih g (by omega)) (VM h hj)
theorem Ym {l : List Ev} (h : jb l = true) (tm : Int) : qk l tm = l.take (cutE l tm) := by
 have hc : cutE l tm ≤ l.length := List.findIdx_le_length
 unfold qk
 rw [← List.take_append_drop (cutE l tm) l, List.filter_append]
 have e1 : (l.take (cutE l tm)).filter (fun e => decide (e.entry ≤ tm)) = l.take (cutE l tm) := by
  refine List.filter_eq_self.2 fun x hx => ?_
  obtain ⟨i, hi, rfl⟩ := List.mem_iff_getElem.1 hx
  rw [List.length_take] at hi
  rw [List.getElem_take]
  have := List.not_of_lt_findIdx (p := fun e : Ev => decide (tm < e.entry)) (xs := l) (i := i) (by unfold cutE at hi; omega)
  have this : ¬ tm < (l[i]).entry := fun q => by have := decide_eq_true q; simp_all
  exact decide_eq_true (by omega)
 have e2 : (l.drop (cutE l tm)).filter (fun e => decide (e.entry ≤ tm)) = [] := by
  refine List.filter_eq_nil_iff.2 fun x hx => ?_
  obtain ⟨i, hi, rfl⟩ := List.mem_iff_getElem.1 hx
  rw [List.length_drop] at hi
  rw [List.getElem_drop]
  have hlt : cutE l tm < l.length := by omega
  have h0 := List.findIdx_getElem (p := fun e : Ev => decide (tm < e.entry)) (xs := l) (w := hlt)
  have hm := Kr h (i := cutE l tm) (j := cutE l tm + i) (by omega) (by omega)
  rw [zK hlt, zK (by omega)] at hm
  have h0 : tm < (l[cutE l tm]).entry := of_decide_eq_true h0
  intro q
  have q := of_decide_eq_true q
  omega
 rw [e1, e2, List.append_nil]
 rw [List.take_append_drop]
theorem XN {l : List Ev} {tm d : Int} : xv l tm d = jJ l tm d := by
 have hv := (jG (l := l)).1
 unfold xv jJ
 cases h1 : (SS.play ⟨[], []⟩ l).isSome with
 | false =>
  rw [h1] at hv
  have e : zC l tm (some d) = (([], []), 8) := by unfold zC; rw [if_pos h1]
  rw [if_pos hv.symm, e, if_neg (fun q => absurd q.1 (by decide))]
 | true =>
  rw [h1] at hv
  rw [if_neg (show ¬ jb l = false by rw [← hv]; decide)]
  by_cases h2 : tm < 0 ∨ 1125899906842624 < tm
  ·have e : zC l tm (some d) = (([], []), 2) := by unfold zC; rw [if_neg (by rw [h1]; decide), if_pos h2]
   rw [e, if_neg (fun q => absurd q.1 (by decide)), if_pos (by omega)]
  ·obtain ⟨s, h3⟩ := Option.isSome_iff_exists.1 (xn h1 (cutE l tm))
   obtain ⟨k1, k2⟩ := kF (d := some d) h1 h2 h3
   by_cases g : d < 0 ∨ 99999 < d
   ·rw [if_pos ⟨by rw [k1], g⟩, if_pos (by omega)]
   ·rw [if_neg (fun q => g q.2), if_neg (by omega), Ym hv.symm]
    have I := (jG (l := l.take (cutE l tm))).2 s h3
    obtain ⟨a1, a2, a3⟩ := Xa h3
    have hlen := a1.len
    have := wK (d := d) (L := s.lat) (f := []) (c := []) (by decide) (ZN I) (by simp; omega) (by simp; omega)
    unfold vT
    rw [Ye I, this]
    have e : zC l tm (some d) = zJ (some d) s.lat ([], []) := by
     unfold zC; rw [if_neg (by rw [h1]; decide), if_neg h2, h3]
    rw [← e, k1]
theorem zb4 {x : Fx} (h : okF x = true) : x.date ≤ 99999 := by
 unfold okF dayB at h
 simp only [Bool.and_eq_true, decide_eq_true_eq] at h
 exact h.1.2.2
theorem zbq {x : Ch} (h : okC x = true) : x.date ≤ 99999 := by
 unfold okC dayB at h
 simp only [Bool.and_eq_true, decide_eq_true_eq] at h
 exact h.2.2
theorem zdy {l : List Ev} {tm : Int} : zC l tm none = jJ l tm 99999 := by
 rw [← XN]
 unfold xv
 rw [if_neg (fun q => by have := q.2; omega)]
 cases h1 : (SS.play ⟨[], []⟩ l).isSome with
 | false => unfold zC; rw [if_pos h1, if_pos h1]
 | true =>
  by_cases h2 : tm < 0 ∨ 1125899906842624 < tm
  ·unfold zC; rw [if_neg (by rw [h1]; decide), if_pos h2, if_neg (by rw [h1]; decide), if_pos h2]
  ·obtain ⟨s, h3⟩ := Option.isSome_iff_exists.1 (xn h1 (cutE l tm))
   have I := (jG (l := l.take (cutE l tm))).2 s h3
   have hg := ZN I
   rw [(kF (d := none) h1 h2 h3).1, (kF (d := some 99999) h1 h2 h3).1, zbz, zbj]
   have e1 : (je none s.lat).filter (fun x => decide (x.date ≤ 99999)) = je none s.lat := by
    refine List.filter_eq_self.2 fun x hx => ?_
    obtain ⟨e, he, rfl⟩ := List.mem_map.1 hx
    obtain ⟨he, hk⟩ := List.mem_filter.1 he
    simp only [wL, Bool.and_true, decide_eq_true_eq] at hk
    rcases hg e he with g | g | g
    ·omega
    ·exact decide_eq_true (zb4 g.2)
    ·omega
   have e2 : (jc none s.lat).filter (fun x => decide (x.date ≤ 99999)) = jc none s.lat := by
    refine List.filter_eq_self.2 fun x hx => ?_
    obtain ⟨e, he, rfl⟩ := List.mem_map.1 hx
    obtain ⟨he, hk⟩ := List.mem_filter.1 he
    simp only [wL, Bool.and_true, decide_eq_true_eq] at hk
    rcases hg e he with g | g | g
    ·omega
    ·omega
    ·exact decide_eq_true (zbq g.2)
   rw [e1, e2]
end Go.Nov
end

/- The reference's store: what is known. -/
section
set_option maxRecDepth 100000
open Go Go.Sx Go.Proofs Go.Nov
namespace Go.Proofs.Tryz
attribute [local simp] eqKV eqA eqA0 eqH eqB eqL eqL0
noncomputable def K21 : List Go.Sx.Item := [.code (Tryz.f21.body.getD .skip)]
noncomputable def K20 : List Go.Sx.Item := [.code (Tryz.f20.body.getD .skip)]
noncomputable def K19 : List Go.Sx.Item := [.code (Tryz.f19.body.getD .skip)]
def Um : Ctr := ctrP true (fun p : List Ev × Int => [evS p.1, .int .i64 p.2]) (fun p => p.1.length < 2 ^ 40) (fun p r => r = qk p.1 p.2) (fun _ (r : List Ev) => (evS r, []))
def SUn (l : List Ev) (tm : Int) (n i : Nat) : KV := [(0, evS l), (1, .int .i64 tm), (5, .osl 0 9 0 n), (6, .int .i64 i)]
theorem zaf : ze Tryz.prog 21 Um := by
 refine zh (fn := Tryz.f21) (c := Tryz.f21.body.getD .skip) rfl rfl rfl fun p hp O w0 Q hq => ?_
 obtain ⟨l, tm⟩ := p
 replace hq := hq _ rfl
 refine zc.run hmix zr [0, 1, 5, 6] 400 (T := .leaf (.loop (Prod.fst (lps K21 0)) (Prod.snd (lps K21 0)) [(0, .sl l.length 9 (evG l)), (1, .int .i64 tm), (5, .nils), (6, .int .i64 0)] [])) (by kernel_rfl) ?_
 simp only [Tree.holds, zd]
 have hl : l.length < 2 ^ 40 := hp
 refine zc.bear 5 9 (evG []) rfl (by decide) (by kernel_rfl) ?_
 refine zc.loop (ι := {i : Nat // i ≤ l.length}) (fun i => SUn l tm (qk (l.take i.1) tm).length i.1) (fun i => [.arr (qk (l.take i.1) tm).length 9 (evG (qk (l.take i.1) tm))]) (fun i => l.length - i.1) ⟨0, Nat.zero_le _⟩ 0 ?_ ?_ (by kernel_rfl)
 ·exact ⟨by simp [SUn, kH, evS, qk, za], by simp [qk, za], by kernel_rfl, Nat.zero_le _⟩
 ·rintro ⟨i, hil⟩
  obtain ⟨m, hm⟩ : ∃ m, m = qk (l.take i) tm := ⟨_, rfl⟩
  have hml : m.length ≤ l.length := by rw [hm]; exact V1 i
  simp only [← hm]
  refine zc.run hmix zr [0, 1, 5, 6] 400 (T := .ite (decide ((↑i : Int) < l.length)) (.side ((0 : Int) ≤ i ∧ (↑i : Int) < l.length) (.ite (decide (Ev.entry (List.getD l (Int.toNat (↑i : Int)) Ev.nil) ≤ tm)) (.side ((0 : Int) ≤ i ∧ (↑i : Int) < l.length) (.side (0 = 0 ∧ m.length ≤ m.length ∧ (m.length + 1) * 96 ≤ 140737488355328) (.side (inR .i64 ((↑i : Int) + (1 : Int))) (.leaf (.back 0 [(0, .sl l.length 9 (evG l)), (1, .int .i64 tm), (5, .osl 0 9 0 (m.length + 1)), (6, .int .i64 ((↑i : Int) + (1 : Int)))] [.arr (m.length + 1) 9 (appG m.length (evG m) (zg (zf 9 [.int .u8 (Ev.kind (List.getD l (Int.toNat (↑i : Int)) Ev.nil)), .int .i64 (Ev.id (List.getD l (Int.toNat (↑i : Int)) Ev.nil)), .int .i64 (Ev.entry (List.getD l (Int.toNat (↑i : Int)) Ev.nil)), .int .i64 (Ev.target (List.getD l (Int.toNat (↑i : Int)) Ev.nil)), .int .i64 (Ev.date (List.getD l (Int.toNat (↑i : Int)) Ev.nil)), .str (Ev.zb (List.getD l (Int.toNat (↑i : Int)) Ev.nil)), .str (Ev.name (List.getD l (Int.toNat (↑i : Int)) Ev.nil)), .str (Ev.value (List.getD l (Int.toNat (↑i : Int)) Ev.nil)), .bool (Ev.first (List.getD l (Int.toNat (↑i : Int)) Ev.nil))]) 0)), .arr 1 9 (zf 9 [.int .u8 (Ev.kind (List.getD l (Int.toNat (↑i : Int)) Ev.nil)), .int .i64 (Ev.id (List.getD l (Int.toNat (↑i : Int)) Ev.nil)), .int .i64 (Ev.entry (List.getD l (Int.toNat (↑i : Int)) Ev.nil)), .int .i64 (Ev.target (List.getD l (Int.toNat (↑i : Int)) Ev.nil)), .int .i64 (Ev.date (List.getD l (Int.toNat (↑i : Int)) Ev.nil)), .str (Ev.zb (List.getD l (Int.toNat (↑i : Int)) Ev.nil)), .str (Ev.name (List.getD l (Int.toNat (↑i : Int)) Ev.nil)), .str (Ev.value (List.getD l (Int.toNat (↑i : Int)) Ev.nil)), .bool (Ev.first (List.getD l (Int.toNat (↑i : Int)) Ev.nil))])]))))) (.side (inR .i64 ((↑i : Int) + (1 : Int))) (.leaf (.back 0 [(0, .sl l.length 9 (evG l)), (1, .int .i64 tm), (5, .osl 0 9 0 m.length), (6, .int .i64 ((↑i : Int) + (1 : Int)))] [.arr m.length 9 (evG m)]))))) (.leaf (.ret [.osl 0 9 0 m.length] [.arr m.length 9 (evG m)]))) (by kernel_rfl) ?_
  simp only [Tree.holds, zd, inR, lo, hi, Int.toNat_natCast, Nat.zero_add]
  refine ⟨fun h => ?_, fun h => ?_⟩
  ·have hlt : i < l.length := by have := of_decide_eq_true h; omega
   have ht := W9 (p := fun e : Ev => decide (e.entry ≤ tm)) (z := Ev.nil) hlt
   refine ⟨by omega, fun _ => ⟨fun g => ⟨by omega, fun _ => ⟨⟨trivial, Nat.le_refl _, by omega⟩, fun _ => ⟨by omega, fun _ => ?_⟩⟩⟩, fun g => ⟨by omega, fun _ => ?_⟩⟩⟩
   ·rw [if_pos trivial]
    rw [if_pos g] at ht
    have ht : qk (l.take (i + 1)) tm = m ++ [l.getD i Ev.nil] := by rw [hm]; exact ht
    refine ⟨⟨i + 1, hlt⟩, by show l.length - (i + 1) < l.length - i; omega, by simp [SUn, evS, ht, za], ⟨⟨by simp [ht], rfl, ?_⟩, trivial⟩, by kernel_rfl, Nat.zero_le _⟩
    simp only [ht]
    exact jZ (x := l.getD i Ev.nil) (za _ _ _)
   ·rw [if_pos trivial]
    rw [if_neg (by rw [g]; decide)] at ht
    have ht : qk (l.take (i + 1)) tm = m := by rw [hm]; exact ht
    exact ⟨⟨i + 1, hlt⟩, by show l.length - (i + 1) < l.length - i; omega, by simp [SUn, evS, ht, za], by simp [ht, za], by kernel_rfl, Nat.zero_le _⟩
  ·have hge : i = l.length := by have := of_decide_eq_false h; omega
   rw [hge, List.take_length] at hm
   rw [← hm] at hq
   refine RetR.out0 hq (fun _ => ?_) ?_
   ·simp only [resV, new2, new1, new0]
    intro _
    simp only [exp0, zq, frz1, qw, List.getElem?_cons_zero, if_true, uH]
    exact fun j o hj ho => KM _ _ _ ho
   ·simp [resV, exp2, exp1, exp0, zq, frz1, qw, eqA2, evS, qW]
def qZ (l : List Ev) (n : Nat) : List Ev := ((List.range n).filter fun i => (l.getD i Ev.nil).fact && !zY l ((i : Int) + 1)).map fun i => jC l (l.getD i Ev.nil)
theorem ZG (l : List Ev) (n : Nat) : (qZ l n).length ≤ n := by
 unfold qZ
 rw [List.length_map]
 have := List.length_filter_le (fun i => (l.getD i Ev.nil).fact && !zY l ((i : Int) + 1)) (List.range n)
 simpa using this
theorem Vd (l : List Ev) (n : Nat) : qZ l (n + 1) = if ((l.getD n Ev.nil).fact && !zY l ((n : Int) + 1)) = true then qZ l n ++ [jC l (l.getD n Ev.nil)] else qZ l n := by
 unfold qZ
 rw [List.range_succ, List.filter_append, List.map_append, List.filter_cons]
 split <;> simp
def SFa (l : List Ev) (n i : Nat) : KV := [(0, evS l), (3, .osl 0 9 0 n), (4, .int .i64 i), (5, .undef), (6, .undef), (20, .undef), (21, .undef), (22, .undef), (23, .undef), (44, .undef), (45, .undef), (46, .undef), (47, .undef), (48, .undef), (49, .undef), (66, .undef), (67, .undef), (68, .undef), (69, .undef), (70, .undef), (71, .undef)]
theorem Wn (t : Int) : ∀ (l : List Ev) (a : Ev), (l.foldl (fixS t) a).id = a.id
 | [], a => rfl
 | y :: l, a => by
  simp only [List.foldl_cons]
  rw [Wn t l]
  unfold fixS
  split
  ·rfl
  ·split <;> rfl
def evCs (e : Ev) : List AV := [.int .u8 e.kind, .int .i64 e.id, .int .i64 e.entry, .int .i64 e.target, .int .i64 e.date, .str e.zb, .str e.name, .str e.value, .bool e.first]
def SFb (l : List Ev) (n i k : Nat) : KV := [(0, evS l), (3, .osl 0 9 0 n), (4, .int .i64 i), (5, .ptr 1 0), (6, .int .i64 k), (20, .undef), (21, .undef), (22, .undef), (23, .undef), (44, .undef), (45, .undef), (46, .undef), (47, .undef), (48, .undef), (49, .undef), (66, .undef), (67, .undef), (68, .undef), (69, .undef), (70, .undef), (71, .undef)]
def zbv : Ctr := ctrP true (fun l : List Ev => [evS l]) (fun l => l.length < 2 ^ 40) (fun l r => r = wW l) (fun _ (r : List Ev) => (evS r, []))
noncomputable def GFa : Nat → Option Ctr := fun f => if f = 31 then some (Uf) else if f = 32 then some (Ux) else none
theorem Kx : ∀ g c, GFa g = some c → ze Tryz.prog g c := okIf W5 (okIf KS (zn))
theorem zai : ze Tryz.prog 20 zbv := by
 refine zh (fn := Tryz.f20) (c := Tryz.f20.body.getD .skip) rfl rfl rfl fun l hp O w0 Q hq => ?_
 replace hq := hq _ rfl
 refine zc.run hmix Kx [0, 3, 4, 5, 6, 20, 21, 22, 23, 44, 45, 46, 47, 48, 49, 66, 67, 68, 69, 70, 71] 400 (T := .leaf (.loop (Prod.fst (lps K20 0)) (Prod.snd (lps K20 0)) [(0, .sl l.length 9 (evG l)), (3, .nils), (4, .int .i64 0), (5, .undef), (6, .undef), (20, .undef), (21, .undef), (22, .undef), (23, .undef), (44, .undef), (45, .undef), (46, .undef), (47, .undef), (48, .undef), (49, .undef), (66, .undef), (67, .undef), (68, .undef), (69, .undef), (70, .undef), (71, .undef)] [])) (by kernel_rfl) ?_
 simp only [Tree.holds, zd]
 have hl : l.length < 2 ^ 40 := hp
 refine zc.bear 3 9 (evG []) rfl (by decide) (by kernel_rfl) ?_
 refine zc.loop (ι := {i : Nat // i ≤ l.length}) (fun i => SFa l (qZ l i.1).length i.1) (fun i => [.arr (qZ l i.1).length 9 (evG (qZ l i.1))]) (fun i => l.length - i.1) ⟨0, Nat.zero_le _⟩ 0 ?_ ?_ (by kernel_rfl)
 ·exact ⟨by simp [SFa, kH, evS, qZ, za], by simp [qZ, za], by kernel_rfl, Nat.zero_le _⟩
 ·rintro ⟨i, hil⟩
  obtain ⟨m, hm⟩ : ∃ m, m = qZ l i := ⟨_, rfl⟩
  have hml : m.length ≤ i := by rw [hm]; exact ZG l i
  simp only [← hm]
  refine zc.run hmix Kx [0, 3, 4, 5, 6, 20, 21, 22, 23, 44, 45, 46, 47, 48, 49, 66, 67, 68, 69, 70, 71] 400 (T := .ite (decide ((↑i : Int) < l.length)) (.side ((0 : Int) ≤ i ∧ (↑i : Int) < l.length) (.ex (fun (x : Ev) => eqL [AV.agg [AV.int .u8 (Ev.kind (List.getD l (Int.toNat (↑i : Int)) Ev.nil)), AV.int .i64 (Ev.id (List.getD l (Int.toNat (↑i : Int)) Ev.nil)), AV.int .i64 (Ev.entry (List.getD l (Int.toNat (↑i : Int)) Ev.nil)), AV.int .i64 (Ev.target (List.getD l (Int.toNat (↑i : Int)) Ev.nil)), AV.int .i64 (Ev.date (List.getD l (Int.toNat (↑i : Int)) Ev.nil)), AV.str (Ev.zb (List.getD l (Int.toNat (↑i : Int)) Ev.nil)), AV.str (Ev.name (List.getD l (Int.toNat (↑i : Int)) Ev.nil)), AV.str (Ev.value (List.getD l (Int.toNat (↑i : Int)) Ev.nil)), AV.bool (Ev.first (List.getD l (Int.toNat (↑i : Int)) Ev.nil))]] [AV.agg [AV.int .u8 x.kind, AV.int .i64 x.id, AV.int .i64 x.entry, AV.int .i64 x.target, AV.int .i64 x.date, AV.str x.zb, AV.str x.name, AV.str x.value, AV.bool x.first]] ∧ True) fun n => .all (fun (r : Bool) => r = Ev.fact n) fun n => .side ((!n) = false → inR .i64 ((↑i : Int) + (1 : Int))) (.ex (fun (x : List Ev × Int) => (!n) = false → eqL [AV.sl l.length 9 (evG l), AV.int .i64 ((↑i : Int) + (1 : Int))] [AV.sl x.1.length 9 (evG x.1), AV.int .i64 x.2] ∧ x.1.length < 1099511627776) fun n_1 => .all (fun (x : Bool) => (!n) = false → x = zY n_1.1 n_1.2) fun n_2 => .ite (bif !n then true else n_2) (.side (inR .i64 ((↑i : Int) + (1 : Int))) (.leaf (.back 0 [(0, .sl l.length 9 (evG l)), (3, .osl 0 9 0 m.length), (4, .int .i64 ((↑i : Int) + (1 : Int))), (5, .undef), (6, .undef), (20, .undef), (21, .undef), (22, .undef), (23, .undef), (44, .undef), (45, .undef), (46, .undef), (47, .undef), (48, .undef), (49, .undef), (66, .undef), (67, .undef), (68, .undef), (69, .undef), (70, .undef), (71, .undef)] [.arr m.length 9 (evG m)]))) (.side ((0 : Int) ≤ i ∧ (↑i : Int) < l.length) (.leaf (.loop (Prod.fst (lps (inside K20 0) 0)) (Prod.snd (lps (inside K20 0) 0)) [(0, .sl l.length 9 (evG l)), (3, .osl 0 9 0 m.length), (4, .int .i64 i), (5, .ptr 1 0), (6, .int .i64 0), (20, .undef), (21, .undef), (22, .undef), (23, .undef), (44, .undef), (45, .undef), (46, .undef), (47, .undef), (48, .undef), (49, .undef), (66, .undef), (67, .undef), (68, .undef), (69, .undef), (70, .undef), (71, .undef)] [.arr m.length 9 (evG m), .box [.int .u8 (Ev.kind (List.getD l (Int.toNat (↑i : Int)) Ev.nil)), .int .i64 (Ev.id (List.getD l (Int.toNat (↑i : Int)) Ev.nil)), .int .i64 (Ev.entry (List.getD l (Int.toNat (↑i : Int)) Ev.nil)), .int .i64 (Ev.target (List.getD l (Int.toNat (↑i : Int)) Ev.nil)), .int .i64 (Ev.date (List.getD l (Int.toNat (↑i : Int)) Ev.nil)), .str (Ev.zb (List.getD l (Int.toNat (↑i : Int)) Ev.nil)), .str (Ev.name (List.getD l (Int.toNat (↑i : Int)) Ev.nil)), .str (Ev.value (List.getD l (Int.toNat (↑i : Int)) Ev.nil)), .bool (Ev.first (List.getD l (Int.toNat (↑i : Int)) Ev.nil))]])))))) (.leaf (.ret [.osl 0 9 0 m.length] [.arr m.length 9 (evG m)]))) (by kernel_rfl) ?_
  simp only [Tree.holds, zd, inR, lo, hi, Int.toNat_natCast, Nat.zero_add]
  have hsu := Vd l i
  have nxt : ∀ (kv : KV) (h : Heap) (m' : List Ev), i < l.length → qZ l (i + 1) = m' → LeK 0 Tryz.f20.ntmps kv h (SFa l m'.length (i + 1)) [.arr m'.length 9 (evG m')] → ∃ x' : {i : Nat // i ≤ l.length}, l.length - x'.1 < l.length - i ∧ LeK 0 Tryz.f20.ntmps kv h (SFa l (qZ l x'.1).length x'.1) [.arr (qZ l x'.1).length 9 (evG (qZ l x'.1))] := by
   rintro kv h m' hlt rfl g
   exact ⟨⟨i + 1, hlt⟩, by show l.length - (i + 1) < l.length - i; omega, g⟩
  refine ⟨fun h => ?_, fun h => ?_⟩
  ·have hlt : i < l.length := by have := of_decide_eq_true h; omega
   refine ⟨by omega, fun _ => ⟨l.getD i Ev.nil, ⟨by simp [Ev.av], trivial⟩, ⟨_, rfl⟩, ?_⟩⟩
   rintro _ rfl
   refine ⟨fun _ => by omega, fun _ => ⟨(l, (i : Int) + 1), fun _ => ⟨by simp [za], hl⟩, ⟨_, fun _ => rfl⟩, ?_⟩⟩
   intro b hb
   have hbb : (bif !(l.getD i Ev.nil).fact then true else b) = !((l.getD i Ev.nil).fact && !zY l ((i : Int) + 1)) := by
    cases hf : (l.getD i Ev.nil).fact with
    | false => rfl
    | true => rw [hb (by rw [hf]; rfl)]; simp
   rw [hbb]
   refine ⟨fun g => ⟨by omega, fun _ => ?_⟩, fun g => ⟨by omega, fun _ => ?_⟩⟩
   ·rw [if_pos trivial]
    rw [if_neg (fun q => by rw [q] at g; cases g), ← hm] at hsu
    exact nxt _ _ _ hlt hsu ⟨by simp [SFa, evS, za], by simp [za], by kernel_rfl, Nat.zero_le _⟩
   ·rw [if_pos (by cases q : ((l.getD i Ev.nil).fact && !zY l ((i : Int) + 1)) with | true => rfl | false => rw [q] at g; cases g), ← hm] at hsu
    generalize l.getD i Ev.nil = x at hsu ⊢
    refine zc.loop (ι := {k : Nat // k ≤ l.length}) (fun k => SFb l m.length i k.1) (fun k => [.arr m.length 9 (evG m), .box (evCs ((l.take k.1).foldl (fixS x.id) x))]) (fun k => l.length - k.1) ⟨0, Nat.zero_le _⟩ 1 ?_ ?_ (by kernel_rfl)
    ·exact ⟨by simp [SFb, evS, za], by simp [evCs, za], by kernel_rfl, Nat.zero_le _⟩
    ·rintro ⟨k, hkl⟩
     obtain ⟨e, he⟩ : ∃ e, e = (l.take k).foldl (fixS x.id) x := ⟨_, rfl⟩
     have hid : e.id = x.id := by rw [he]; exact Wn x.id _ _
     simp only [← he]
     refine zc.run hmix Kx [0, 3, 4, 5, 6, 20, 21, 22, 23, 44, 45, 46, 47, 48, 49, 66, 67, 68, 69, 70, 71] 400 (T := .ite (decide ((↑k : Int) < l.length)) (.side ((0 : Int) ≤ k ∧ (↑k : Int) < l.length) (.side (decide (Ev.target (List.getD l (Int.toNat (↑k : Int)) Ev.nil) = Ev.id e) = true → (0 : Int) ≤ k ∧ (↑k : Int) < l.length) (.ite (bif decide (Ev.target (List.getD l (Int.toNat (↑k : Int)) Ev.nil) = Ev.id e) then decide (Ev.kind (List.getD l (Int.toNat (↑k : Int)) Ev.nil) = (3 : Int)) else false) (.side ((0 : Int) ≤ k ∧ (↑k : Int) < l.length) (.side ((0 : Int) ≤ k ∧ (↑k : Int) < l.length) (.side (decide (Ev.target (List.getD l (Int.toNat (↑k : Int)) Ev.nil) = Ev.id e) = true → (0 : Int) ≤ k ∧ (↑k : Int) < l.length) (.ite (bif decide (Ev.target (List.getD l (Int.toNat (↑k : Int)) Ev.nil) = Ev.id e) then decide (Ev.kind (List.getD l (Int.toNat (↑k : Int)) Ev.nil) = (4 : Int)) else false) (.side ((0 : Int) ≤ k ∧ (↑k : Int) < l.length) (.side (inR .i64 ((↑k : Int) + (1 : Int))) (.leaf (.back 1 [(0, .sl l.length 9 (evG l)), (3, .osl 0 9 0 m.length), (4, .int .i64 i), (5, .ptr 1 0), (6, .int .i64 ((↑k : Int) + (1 : Int))), (20, .undef), (21, .undef), (22, .undef), (23, .undef), (44, .undef), (45, .undef), (46, .undef), (47, .undef), (48, .undef), (49, .undef), (66, .undef), (67, .undef), (68, .undef), (69, .undef), (70, .undef), (71, .undef)] [.arr m.length 9 (evG m), .box [.int .u8 e.kind, .int .i64 e.id, .int .i64 e.entry, .int .i64 e.target, .int .i64 e.date, .str e.zb, .str e.name, .str (Ev.value (List.getD l (Int.toNat (↑k : Int)) Ev.nil)), .bool (Ev.first (List.getD l (Int.toNat (↑k : Int)) Ev.nil))]])))) (.side (inR .i64 ((↑k : Int) + (1 : Int))) (.leaf (.back 1 [(0, .sl l.length 9 (evG l)), (3, .osl 0 9 0 m.length), (4, .int .i64 i), (5, .ptr 1 0), (6, .int .i64 ((↑k : Int) + (1 : Int))), (20, .undef), (21, .undef), (22, .undef), (23, .undef), (44, .undef), (45, .undef), (46, .undef), (47, .undef), (48, .undef), (49, .undef), (66, .undef), (67, .undef), (68, .undef), (69, .undef), (70, .undef), (71, .undef)] [.arr m.length 9 (evG m), .box [.int .u8 e.kind, .int .i64 e.id, .int .i64 e.entry, .int .i64 e.target, .int .i64 e.date, .str e.zb, .str e.name, .str (Ev.value (List.getD l (Int.toNat (↑k : Int)) Ev.nil)), .bool e.first]]))))))) (.side ((0 : Int) ≤ k ∧ (↑k : Int) < l.length) (.side (decide (Ev.target (List.getD l (Int.toNat (↑k : Int)) Ev.nil) = Ev.id e) = true → (0 : Int) ≤ k ∧ (↑k : Int) < l.length) (.ite (bif decide (Ev.target (List.getD l (Int.toNat (↑k : Int)) Ev.nil) = Ev.id e) then decide (Ev.kind (List.getD l (Int.toNat (↑k : Int)) Ev.nil) = (4 : Int)) else false) (.side ((0 : Int) ≤ k ∧ (↑k : Int) < l.length) (.side (inR .i64 ((↑k : Int) + (1 : Int))) (.leaf (.back 1 [(0, .sl l.length 9 (evG l)), (3, .osl 0 9 0 m.length), (4, .int .i64 i), (5, .ptr 1 0), (6, .int .i64 ((↑k : Int) + (1 : Int))), (20, .undef), (21, .undef), (22, .undef), (23, .undef), (44, .undef), (45, .undef), (46, .undef), (47, .undef), (48, .undef), (49, .undef), (66, .undef), (67, .undef), (68, .undef), (69, .undef), (70, .undef), (71, .undef)] [.arr m.length 9 (evG m), .box [.int .u8 e.kind, .int .i64 e.id, .int .i64 e.entry, .int .i64 e.target, .int .i64 e.date, .str e.zb, .str e.name, .str e.value, .bool (Ev.first (List.getD l (Int.toNat (↑k : Int)) Ev.nil))]])))) (.side (inR .i64 ((↑k : Int) + (1 : Int))) (.leaf (.back 1 [(0, .sl l.length 9 (evG l)), (3, .osl 0 9 0 m.length), (4, .int .i64 i), (5, .ptr 1 0), (6, .int .i64 ((↑k : Int) + (1 : Int))), (20, .undef), (21, .undef), (22, .undef), (23, .undef), (44, .undef), (45, .undef), (46, .undef), (47, .undef), (48, .undef), (49, .undef), (66, .undef), (67, .undef), (68, .undef), (69, .undef), (70, .undef), (71, .undef)] [.arr m.length 9 (evG m), .box [.int .u8 e.kind, .int .i64 e.id, .int .i64 e.entry, .int .i64 e.target, .int .i64 e.date, .str e.zb, .str e.name, .str e.value, .bool e.first]]))))))))) (.side (0 = 0 ∧ m.length ≤ m.length ∧ (m.length + 1) * 96 ≤ 140737488355328) (.side (inR .i64 ((↑i : Int) + (1 : Int))) (.leaf (.back 0 [(0, .sl l.length 9 (evG l)), (3, .osl 0 9 0 (m.length + 1)), (4, .int .i64 ((↑i : Int) + (1 : Int))), (5, .ptr 1 0), (6, .int .i64 k), (20, .undef), (21, .undef), (22, .undef), (23, .undef), (44, .undef), (45, .undef), (46, .undef), (47, .undef), (48, .undef), (49, .undef), (66, .undef), (67, .undef), (68, .undef), (69, .undef), (70, .undef), (71, .undef)] [.arr (m.length + 1) 9 (appG m.length (evG m) (zg (zf 9 [.int .u8 e.kind, .int .i64 e.id, .int .i64 e.entry, .int .i64 e.target, .int .i64 e.date, .str e.zb, .str e.name, .str e.value, .bool e.first]) 0)), .box [.int .u8 e.kind, .int .i64 e.id, .int .i64 e.entry, .int .i64 e.target, .int .i64 e.date, .str e.zb, .str e.name, .str e.value, .bool e.first], .arr 1 9 (zf 9 [.int .u8 e.kind, .int .i64 e.id, .int .i64 e.entry, .int .i64 e.target, .int .i64 e.date, .str e.zb, .str e.name, .str e.value, .bool e.first])]))))) (by kernel_rfl) ?_
     simp only [Tree.holds, zd, inR, lo, hi, Int.toNat_natCast, Nat.zero_add, bifA]
     have stp : k < l.length → (l.take (k + 1)).foldl (fixS x.id) x = fixS x.id e (l.getD k Ev.nil) := fun hk => by
      rw [List.take_add_one, List.getElem?_eq_getElem hk, zK hk, List.foldl_append, ← he]; rfl
     have nxk : ∀ (kv : KV) (h : Heap), k < l.length → ∀ e', (l.take (k + 1)).foldl (fixS x.id) x = e' → LeK 0 Tryz.f20.ntmps kv h (SFb l m.length i (k + 1)) [.arr m.length 9 (evG m), .box (evCs e')] → ∃ x' : {k : Nat // k ≤ l.length}, l.length - x'.1 < l.length - k ∧ LeK 0 Tryz.f20.ntmps kv h (SFb l m.length i x'.1) [.arr m.length 9 (evG m), .box (evCs ((l.take x'.1).foldl (fixS x.id) x))] := by
      rintro kv h hk e' rfl g
      exact ⟨⟨k + 1, hk⟩, by show l.length - (k + 1) < l.length - k; omega, g⟩
     refine ⟨fun h => ?_, fun h => ?_⟩
     ·have hk : k < l.length := by have := of_decide_eq_true h; omega
      have hs := stp hk
      rw [hid]
      refine ⟨by omega, fun _ => ⟨fun _ => by omega, fun _ => ⟨fun g3 => ⟨by omega, fun _ => ⟨by omega, fun _ => ⟨fun _ => by omega, fun _ => ⟨fun g4 => ?_, fun g4 => ⟨by omega, fun _ => ?_⟩⟩⟩⟩⟩, fun g3 => ⟨by omega, fun _ => ⟨fun _ => by omega, fun _ => ⟨fun g4 => ⟨by omega, fun _ => ⟨by omega, fun _ => ?_⟩⟩, fun g4 => ⟨by omega, fun _ => ?_⟩⟩⟩⟩⟩⟩⟩
      ·exfalso
       rw [Bool.and_eq_true, decide_eq_true_eq, decide_eq_true_eq] at g3 g4
       omega
      ·rw [if_pos trivial]
       rw [Bool.and_eq_true, decide_eq_true_eq, decide_eq_true_eq] at g3
       unfold fixS at hs
       rw [if_pos g3] at hs
       exact nxk _ _ hk _ hs ⟨by simp [SFb, evS, za], by simp [evCs, za, hid], by kernel_rfl, Nat.zero_le _⟩
      ·rw [if_pos trivial]
       rw [Bool.and_eq_true, decide_eq_true_eq, decide_eq_true_eq] at g4
       unfold fixS at hs
       rw [if_neg (by omega), if_pos g4] at hs
       exact nxk _ _ hk _ hs ⟨by simp [SFb, evS, za], by simp [evCs, za, hid], by kernel_rfl, Nat.zero_le _⟩
      ·rw [if_pos trivial]
       have n3 : ¬ ((l.getD k Ev.nil).target = x.id ∧ (l.getD k Ev.nil).kind = 3) := fun q => by rw [decide_eq_true q.1, decide_eq_true q.2] at g3; cases g3
       have n4 : ¬ ((l.getD k Ev.nil).target = x.id ∧ (l.getD k Ev.nil).kind = 4) := fun q => by rw [decide_eq_true q.1, decide_eq_true q.2] at g4; cases g4
       unfold fixS at hs
       rw [if_neg n3, if_neg n4] at hs
       exact nxk _ _ hk _ hs ⟨by simp [SFb, evS, za], by simp [evCs, za, hid], by kernel_rfl, Nat.zero_le _⟩
     ·have hge : k = l.length := by have := of_decide_eq_false h; omega
      have he : e = jC l x := by rw [he, hge, List.take_length]; rfl
      refine ⟨⟨trivial, Nat.le_refl _, by omega⟩, fun _ => ⟨by omega, fun _ => ?_⟩⟩
      rw [if_neg (by decide), if_pos trivial]
      rw [← he] at hsu
      refine nxt _ _ _ hlt hsu ⟨by simp [SFa, evS, za], ⟨⟨by simp, rfl, jZ (x := e) (za _ _ _)⟩, trivial⟩, by kernel_rfl, Nat.zero_le _⟩
  ·have hge : i = l.length := by have := of_decide_eq_false h; omega
   rw [hge] at hm
   have hm : m = wW l := hm
   rw [← hm] at hq
   refine RetR.out0 hq (fun _ => ?_) ?_
   ·simp only [resV, new2, new1, new0]
    intro _
    simp only [exp0, zq, frz1, qw, List.getElem?_cons_zero, if_true, uH]
    exact fun j o hj ho => KM _ _ _ ho
   ·simp [resV, exp2, exp1, exp0, zq, frz1, qw, eqA2, evS, qW]
theorem Uy {f : List Fx} {c : List Ch} {x : Fx} (h : (putF f c x).2 ≠ 0) : (putF f c x).1 = ([], []) := by
 unfold putF at h ⊢
 split
 ·rfl
 split
 ·rfl
 split
 ·rfl
 split
 ·rfl
 ·rename_i a1 a2 a3 a4
  rw [if_neg a1, if_neg a2, if_neg a3, if_neg a4] at h
  exact absurd rfl h
theorem zc1 {f : List Fx} {c : List Ch} {x : Ch} (h : (putC f c x).2 ≠ 0) : (putC f c x).1 = ([], []) := by
 unfold putC at h ⊢
 split
 ·rfl
 split
 ·rfl
 split
 ·rfl
 ·rename_i a1 a2 a3
  rw [if_neg a1, if_neg a2, if_neg a3] at h
  exact absurd rfl h
def uJ (d : Int) (v : EnvL) (e : Ev) : EnvL := if d < e.date then v else if e.kind = 1 then (putF v.1 v.2 e.fx).1 else (putC v.1 v.2 e.ch).1
def SKr (l : List Ev) (d : Int) (i : Nat) : KV := [(0, evS l), (1, .int .i64 d), (4, .ptr 0 0), (5, .ptr 1 0), (6, .int .i64 i)]
def Xe : Ctr := ctrP false (fun p : List Ev × Int => [evS p.1, .int .i64 p.2]) (fun p => p.1.length < 2 ^ 40 ∧ ∀ e ∈ p.1, z7 e) (fun p r => r = vT p.1 p.2) (fun _ (r : EnvL) => (envA r.1 r.2, []))
noncomputable def GKr : Nat → Option Ctr := fun f => if f = 29 then some (XJ) else if f = 30 then some (Xr) else none
theorem zb6 : ∀ g c, GKr g = some c → ze Tryz.prog g c := okIf zdc (okIf zdm (zn))
theorem XO : ze Tryz.prog 19 Xe := by
 refine zh (fn := Tryz.f19) (c := Tryz.f19.body.getD .skip) rfl rfl rfl fun p hp O w0 Q hq => ?_
 obtain ⟨l, d⟩ := p
 replace hq := hq _ rfl
 refine zc.run hmix zb6 [0, 1, 4, 5, 6] 400 (T := .leaf (.loop (Prod.fst (lps K19 0)) (Prod.snd (lps K19 0)) [(0, .sl l.length 9 (evG l)), (1, .int .i64 d), (4, .ptr 0 0), (5, .ptr 1 0), (6, .int .i64 0)] [.box [.nils, .nils], .box [.nils, .nils]])) (by kernel_rfl) ?_
 simp only [Tree.holds, zd]
 obtain ⟨hl, hs⟩ := hp
 simp only at hl hs hq
 refine zc.loop (ι := {p : Nat × EnvL // p.1 ≤ l.length ∧ envP p.2 ∧ (l.drop p.1).foldl (uJ d) p.2 = vT l d}) (fun p => SKr l d p.1.1) (fun p => [.box [.nils, .nils], .box [fxS p.1.2.1, chS p.1.2.2]]) (fun p => l.length - p.1.1) ⟨(0, ([], [])), Nat.zero_le _, vP (by decide) (by decide) (by simp) (by simp), rfl⟩ 0 ?_ ?_ (by kernel_rfl)
 ·exact ⟨by simp [SKr, evS, za], by simp [fxS, chS, za], by kernel_rfl, Nat.zero_le _⟩
 ·rintro ⟨⟨i, f, c⟩, hil, hep, hfo⟩
  simp only at hil hep hfo
  refine zc.run hmix zb6 [0, 1, 4, 5, 6] 400 (T := .ite (decide ((↑i : Int) < l.length)) (.side ((0 : Int) ≤ i ∧ (↑i : Int) < l.length) (.ite (decide (d < Ev.date (List.getD l (Int.toNat (↑i : Int)) Ev.nil))) (.side (inR .i64 ((↑i : Int) + (1 : Int))) (.leaf (.back 0 [(0, .sl l.length 9 (evG l)), (1, .int .i64 d), (4, .ptr 0 0), (5, .ptr 1 0), (6, .int .i64 ((↑i : Int) + (1 : Int)))] [.box [.nils, .nils], .box [.sl f.length 3 (fxG f), .sl c.length 4 (chG c)], .box [.int .u8 (Ev.kind (List.getD l (Int.toNat (↑i : Int)) Ev.nil)), .int .i64 (Ev.id (List.getD l (Int.toNat (↑i : Int)) Ev.nil)), .int .i64 (Ev.entry (List.getD l (Int.toNat (↑i : Int)) Ev.nil)), .int .i64 (Ev.target (List.getD l (Int.toNat (↑i : Int)) Ev.nil)), .int .i64 (Ev.date (List.getD l (Int.toNat (↑i : Int)) Ev.nil)), .str (Ev.zb (List.getD l (Int.toNat (↑i : Int)) Ev.nil)), .str (Ev.name (List.getD l (Int.toNat (↑i : Int)) Ev.nil)), .str (Ev.value (List.getD l (Int.toNat (↑i : Int)) Ev.nil)), .bool (Ev.first (List.getD l (Int.toNat (↑i : Int)) Ev.nil))]]))) (.ite (decide (Ev.kind (List.getD l (Int.toNat (↑i : Int)) Ev.nil) = (1 : Int))) (.ex (fun (x : (List Fx × List Ch) × Fx) => eqL [AV.agg [AV.sl f.length 3 (fxG f), AV.sl c.length 4 (chG c)], AV.agg [AV.str (Ev.name (List.getD l (Int.toNat (↑i : Int)) Ev.nil)), AV.int .i64 (Ev.date (List.getD l (Int.toNat (↑i : Int)) Ev.nil)), AV.str (Ev.value (List.getD l (Int.toNat (↑i : Int)) Ev.nil))]] [AV.agg [AV.sl x.1.1.length 3 (fxG x.1.1), AV.sl x.1.2.length 4 (chG x.1.2)], AV.agg [AV.str x.2.name, AV.int .i64 x.2.date, AV.str x.2.value]] ∧ envP x.1 ∧ qn x.2) fun n => .all (fun (r : (List Fx × List Ch) × Int) => r = putF n.1.1 n.1.2 n.2) fun n => .side (inR .i64 ((↑i : Int) + (1 : Int))) (.leaf (.back 0 [(0, .sl l.length 9 (evG l)), (1, .int .i64 d), (4, .ptr 0 0), (5, .ptr 1 0), (6, .int .i64 ((↑i : Int) + (1 : Int)))] [.box [.nils, .nils], .box [.sl n.1.1.length 3 (fxG n.1.1), .sl n.1.2.length 4 (chG n.1.2)], .box [.int .u8 (Ev.kind (List.getD l (Int.toNat (↑i : Int)) Ev.nil)), .int .i64 (Ev.id (List.getD l (Int.toNat (↑i : Int)) Ev.nil)), .int .i64 (Ev.entry (List.getD l (Int.toNat (↑i : Int)) Ev.nil)), .int .i64 (Ev.target (List.getD l (Int.toNat (↑i : Int)) Ev.nil)), .int .i64 (Ev.date (List.getD l (Int.toNat (↑i : Int)) Ev.nil)), .str (Ev.zb (List.getD l (Int.toNat (↑i : Int)) Ev.nil)), .str (Ev.name (List.getD l (Int.toNat (↑i : Int)) Ev.nil)), .str (Ev.value (List.getD l (Int.toNat (↑i : Int)) Ev.nil)), .bool (Ev.first (List.getD l (Int.toNat (↑i : Int)) Ev.nil))]]))) (.ex (fun (x : (List Fx × List Ch) × Ch) => eqL [AV.agg [AV.sl f.length 3 (fxG f), AV.sl c.length 4 (chG c)], AV.agg [AV.str (Ev.zb (List.getD l (Int.toNat (↑i : Int)) Ev.nil)), AV.str (Ev.name (List.getD l (Int.toNat (↑i : Int)) Ev.nil)), AV.int .i64 (Ev.date (List.getD l (Int.toNat (↑i : Int)) Ev.nil)), AV.bool (Ev.first (List.getD l (Int.toNat (↑i : Int)) Ev.nil))]] [AV.agg [AV.sl x.1.1.length 3 (fxG x.1.1), AV.sl x.1.2.length 4 (chG x.1.2)], AV.agg [AV.str x.2.zb, AV.str x.2.name, AV.int .i64 x.2.date, AV.bool x.2.first]] ∧ envP x.1 ∧ qj x.2) fun n => .all (fun (r : (List Fx × List Ch) × Int) => r = putC n.1.1 n.1.2 n.2) fun n => .side (inR .i64 ((↑i : Int) + (1 : Int))) (.leaf (.back 0 [(0, .sl l.length 9 (evG l)), (1, .int .i64 d), (4, .ptr 0 0), (5, .ptr 1 0), (6, .int .i64 ((↑i : Int) + (1 : Int)))] [.box [.nils, .nils], .box [.sl n.1.1.length 3 (fxG n.1.1), .sl n.1.2.length 4 (chG n.1.2)], .box [.int .u8 (Ev.kind (List.getD l (Int.toNat (↑i : Int)) Ev.nil)), .int .i64 (Ev.id (List.getD l (Int.toNat (↑i : Int)) Ev.nil)), .int .i64 (Ev.entry (List.getD l (Int.toNat (↑i : Int)) Ev.nil)), .int .i64 (Ev.target (List.getD l (Int.toNat (↑i : Int)) Ev.nil)), .int .i64 (Ev.date (List.getD l (Int.toNat (↑i : Int)) Ev.nil)), .str (Ev.zb (List.getD l (Int.toNat (↑i : Int)) Ev.nil)), .str (Ev.name (List.getD l (Int.toNat (↑i : Int)) Ev.nil)), .str (Ev.value (List.getD l (Int.toNat (↑i : Int)) Ev.nil)), .bool (Ev.first (List.getD l (Int.toNat (↑i : Int)) Ev.nil))]])))))) (.leaf (.ret [.agg [.sl f.length 3 (fxG f), .sl c.length 4 (chG c)]] [.box [.sl f.length 3 (fxG f), .sl c.length 4 (chG c)], .box [.sl f.length 3 (fxG f), .sl c.length 4 (chG c)]]))) (by kernel_rfl) ?_
  simp only [Tree.holds, zd, inR, lo, hi, Int.toNat_natCast, Nat.zero_add]
  have cont : ∀ (v' : EnvL) (kv : KV) (h : Heap), i < l.length → envP v' → (l.drop (i + 1)).foldl (uJ d) v' = vT l d → LeK 0 Tryz.f19.ntmps kv h (SKr l d (i + 1)) [.box [.nils, .nils], .box [fxS v'.1, chS v'.2]] →
    ∃ x' : {p : Nat × EnvL // p.1 ≤ l.length ∧ envP p.2 ∧ (l.drop p.1).foldl (uJ d) p.2 = vT l d}, l.length - x'.1.1 < l.length - i ∧ LeK 0 Tryz.f19.ntmps kv h (SKr l d x'.1.1) [.box [.nils, .nils], .box [fxS x'.1.2.1, chS x'.1.2.2]] :=
   fun v' kv h hlt g1 g2 g3 => ⟨⟨(i + 1, v'), hlt, g1, g2⟩, by show l.length - (i + 1) < l.length - i; omega, g3⟩
  refine ⟨fun h => ?_, fun h => ?_⟩
  ·have hlt : i < l.length := by have := of_decide_eq_true h; omega
   rw [List.drop_eq_getElem_cons hlt, List.foldl_cons, ← zK (z := Ev.nil) hlt] at hfo
   have hsx := jU hs i
   refine ⟨by omega, fun _ => ⟨fun g => ⟨by omega, fun _ => ?_⟩, fun g => ⟨fun g2 => ?_, fun g2 => ?_⟩⟩⟩
   ·rw [if_pos trivial]
    have e : uJ d (f, c) (l.getD i Ev.nil) = (f, c) := if_pos (of_decide_eq_true g)
    rw [e] at hfo
    exact cont (f, c) _ _ hlt hep hfo ⟨by simp [SKr, evS, za], by simp [fxS, chS, za], by kernel_rfl, Nat.zero_le _⟩
   ·have e : uJ d (f, c) (l.getD i Ev.nil) = (putF f c (l.getD i Ev.nil).fx).1 := by
     unfold uJ; rw [if_neg (of_decide_eq_false g), if_pos (of_decide_eq_true g2)]
    rw [e] at hfo
    refine ⟨((f, c), (l.getD i Ev.nil).fx), ⟨by simp [Ev.fx, za], hep, hsx.2⟩, ⟨_, rfl⟩, ?_⟩
    rintro _ rfl
    refine ⟨by omega, fun _ => ?_⟩
    rw [if_pos trivial]
    refine cont _ _ _ hlt ?_ hfo ⟨by simp [SKr, evS, za], by simp [fxS, chS, za], by kernel_rfl, Nat.zero_le _⟩
    by_cases h0 : (putF f c (l.getD i Ev.nil).fx).2 = 0
    ·exact yH hep (show qn (l.getD i Ev.nil).fx from hsx.2) h0
    ·rw [Uy h0]; exact vP (by decide) (by decide) (by simp) (by simp)
   ·have e : uJ d (f, c) (l.getD i Ev.nil) = (putC f c (l.getD i Ev.nil).ch).1 := by
     unfold uJ; rw [if_neg (of_decide_eq_false g), if_neg (of_decide_eq_false g2)]
    rw [e] at hfo
    refine ⟨((f, c), (l.getD i Ev.nil).ch), ⟨by simp [Ev.ch, za], hep, ⟨hsx.1, hsx.2.1⟩⟩, ⟨_, rfl⟩, ?_⟩
    rintro _ rfl
    refine ⟨by omega, fun _ => ?_⟩
    rw [if_pos trivial]
    refine cont _ _ _ hlt ?_ hfo ⟨by simp [SKr, evS, za], by simp [fxS, chS, za], by kernel_rfl, Nat.zero_le _⟩
    by_cases h0 : (putC f c (l.getD i Ev.nil).ch).2 = 0
    ·exact yb hep (show qj (l.getD i Ev.nil).ch from ⟨hsx.1, hsx.2.1⟩) h0
    ·rw [zc1 h0]; exact vP (by decide) (by decide) (by simp) (by simp)
  ·have hge : i = l.length := by have := of_decide_eq_false h; omega
   rw [hge, List.drop_length] at hfo
   have hfo : vT l d = (f, c) := hfo.symm
   rw [hfo] at hq
   exact RetR.out0 hq (fun h => by cases h) (by simp [resV, exp2, exp1, exp0, ren0, eqA2, envA, fxS, chS, za])
end Go.Proofs.Tryz
end

/- The law of StoreTells holds of the code. -/
section
set_option maxRecDepth 100000
open Go Go.Sx Go.Proofs Go.Nov
namespace Go.Proofs.Tryz
attribute [local simp] eqKV eqA eqA0 eqH eqB eqL eqL0
theorem Vm {l : List Ev} {x : Ev} (hl : ∀ e ∈ l, z7 e) (hx : z7 x) : z7 (jC l x) := by
 unfold jC
 generalize x.id = t
 induction l generalizing x with
 | nil => exact hx
 | cons y l ih =>
  simp only [List.foldl_cons]
  refine ih (fun e he => hl e (by simp [he])) ?_
  have hy := hl y (by simp)
  unfold fixS
  split
  ·exact ⟨hx.1, hx.2.1, hy.2.2⟩
  ·split <;> exact hx
def JA : Ctr := ctrP false (fun p : List Ev × Int × Int => [.agg [evS p.1], .int .i64 p.2.1, .int .i64 p.2.2]) (fun p => evP p.1) (fun p r => r = jJ p.1 p.2.1 p.2.2) (fun _ (r : EnvL × Int) => (.tup [envA r.1.1 r.1.2, .int .i64 r.2], []))
noncomputable def GRp : Nat → Option Ctr := fun f => if f = 17 then some (JZ) else if f = 18 then some (JE) else if f = 21 then some (Um) else if f = 20 then some (zbv) else if f = 19 then some (Xe) else none
theorem zf5 : ∀ g c, GRp g = some c → ze Tryz.prog g c := okIf QA (okIf Zn (okIf zaf (okIf zai (okIf XO (zn)))))
theorem WH : ze Tryz.prog 8 JA := by
 refine zh (fn := Tryz.f8) (c := Tryz.f8.body.getD .skip) rfl rfl rfl fun p hp O w0 Q hq => ?_
 obtain ⟨l, tm, d⟩ := p
 replace hq := hq _ rfl
 refine zc.run hmix zf5 [] 400 (T := .ex (fun (x : List Ev) => eqL [AV.agg [AV.sl l.length 9 (evG l)]] [AV.agg [AV.sl x.length 9 (evG x)]] ∧ evP x) fun n => .all (fun (r : Bool) => r = jb n) fun n => .ite (!n) (.leaf (.ret [.agg [.nils, .nils], .int .i64 8] [.box [.sl l.length 9 (evG l)], .box [.nils, .nils]])) (.ite (bif !bif decide ((0 : Int) ≤ tm) then decide (tm ≤ 1125899906842624) else false then true else !bif decide ((0 : Int) ≤ d) then decide (d ≤ 99999) else false) (.leaf (.ret [.agg [.nils, .nils], .int .i64 2] [.box [.sl l.length 9 (evG l)], .box [.nils, .nils]])) (.ex (fun (x : List Ev × Int) => eqL [AV.sl l.length 9 (evG l), AV.int .i64 tm] [AV.sl x.1.length 9 (evG x.1), AV.int .i64 x.2] ∧ x.1.length < 1099511627776) fun n => .all (fun (r : List Ev) => r = qk n.1 n.2) fun n => .ex (fun (x : List Ev) => eqL [AV.sl n.length 9 (evG n)] [AV.sl x.length 9 (evG x)] ∧ x.length < 1099511627776) fun n => .all (fun (r : List Ev) => r = wW n) fun n => .ex (fun (x : List Ev × Int) => eqL [AV.sl n.length 9 (evG n), AV.int .i64 d] [AV.sl x.1.length 9 (evG x.1), AV.int .i64 x.2] ∧ x.1.length < 1099511627776 ∧ ∀ (e : Ev), e ∈ x.1 → z7 e) fun n => .all (fun (r : EnvL) => r = vT n.1 n.2) fun n => .leaf (.ret [.agg [.sl n.1.length 3 (fxG n.1), .sl n.2.length 4 (chG n.2)], .int .i64 0] [.box [.sl l.length 9 (evG l)], .box [.sl n.1.length 3 (fxG n.1), .sl n.2.length 4 (chG n.2)]])))) (by kernel_rfl) ?_
 simp only [Tree.holds, zd]
 simp only [bifO, bifA]
 have hl : l.length < 2 ^ 40 := hp.1
 have nilR : ∀ (z : Int) (h : Heap), jJ l tm d = (([], []), z) → RetR JA 0 Q [.agg [.nils, .nils], .int .i64 z] h := fun z h hr => by
  simp only [hr] at hq
  exact retN rfl hq
 refine ⟨l, ⟨by simp [evS, za], hp⟩, ⟨_, rfl⟩, ?_⟩
 rintro _ rfl
 refine ⟨fun h => nilR _ _ ?_, fun h => ⟨fun h2 => nilR _ _ ?_, fun h2 => ?_⟩⟩
 ·unfold jJ; rw [if_pos (by simpa using h)]
 ·unfold jJ
  rw [if_neg (by simpa using h), if_pos]
  rw [Bool.or_eq_true, Bool.not_eq_true', Bool.not_eq_true', Bool.and_eq_false_iff, Bool.and_eq_false_iff, decide_eq_false_iff_not, decide_eq_false_iff_not, decide_eq_false_iff_not, decide_eq_false_iff_not] at h2
  omega
 ·have hr : jJ l tm d = (vT (wW (qk l tm)) d, 0) := by
   unfold jJ
   rw [if_neg (by simpa using h), if_neg]
   rw [Bool.or_eq_false_iff, Bool.not_eq_false', Bool.not_eq_false', Bool.and_eq_true, Bool.and_eq_true, decide_eq_true_eq, decide_eq_true_eq, decide_eq_true_eq, decide_eq_true_eq] at h2
   omega
  simp only [hr] at hq
  have h1 : ∀ e ∈ qk l tm, z7 e := fun e he => hp.2 e (List.mem_filter.1 he).1
  have l1 : (qk l tm).length ≤ l.length := List.length_filter_le _ _
  have l2 : (wW (qk l tm)).length ≤ (qk l tm).length := ZG _ _
  have h2' : ∀ e ∈ wW (qk l tm), z7 e := by
   intro e he
   obtain ⟨i, _, rfl⟩ := List.mem_map.1 he
   exact Vm h1 (jU h1 i)
  refine ⟨(l, tm), ⟨by simp [za], hl⟩, ⟨_, rfl⟩, ?_⟩
  rintro _ rfl
  refine ⟨qk l tm, ⟨by simp [za], by omega⟩, ⟨_, rfl⟩, ?_⟩
  rintro _ rfl
  refine ⟨(wW (qk l tm), d), ⟨by simp [za], by show (wW (qk l tm)).length < _; omega, h2'⟩, ⟨_, rfl⟩, ?_⟩
  rintro _ rfl
  exact retE rfl hq
end Go.Proofs.Tryz
end

/- The law of StoreTells holds of the code. -/
section
set_option maxRecDepth 100000
open Go Go.Sx Go.Proofs Go.Nov
namespace Go.Proofs.Tryz
attribute [local simp] eqKV eqA eqA0 eqH eqB eqL eqL0
noncomputable def K12 : List Go.Sx.Item := [.code (Tryz.f12.body.getD .skip)]
noncomputable def K10 : List Go.Sx.Item := [.code (Tryz.f10.body.getD .skip)]
def zbx : Ctr := ctrP true (fun p : List Int × List Int => [intS p.1, intS p.2]) (fun p => p.1.length < 2 ^ 40) (fun p r => (r = true ↔ p.1 = p.2)) (fun _ (r : Bool) => (.bool r, []))
def SSi (a b : List Int) (i : Nat) : KV := [(0, intS a), (1, intS b), (5, .int .i64 i)]
theorem zal : ze Tryz.prog 12 zbx := by
 refine zh (fn := Tryz.f12) (c := Tryz.f12.body.getD .skip) rfl rfl rfl fun p hp O w0 Q hq => ?_
 obtain ⟨a, b⟩ := p
 refine zc.run hmix zr [0, 1, 5] 400 (T := .ite (!decide ((↑a.length : Int) = b.length)) (.leaf (.ret [.bool false] [])) (.leaf (.loop (Prod.fst (lps K12 0)) (Prod.snd (lps K12 0)) [(0, .sl a.length 1 fun (j x : Nat) => .int .i64 (List.getD a j (0 : Int))), (1, .sl b.length 1 fun (j x : Nat) => .int .i64 (List.getD b j (0 : Int))), (5, .int .i64 0)] []))) (by kernel_rfl) ?_
 simp only [Tree.holds, zd]
 refine ⟨fun h => RetR.scal (hq false ?_) rfl rfl, fun h => ?_⟩
 ·refine ⟨fun g => (by cases g), fun g => ?_⟩
  rw [show a = b from g] at h; simp at h
 have hlen : a.length = b.length := by
  have : (a.length : Int) = b.length := by simpa using h
  omega
 have ha : a.length < 2 ^ 40 := hp
 refine zc.loop (ι := {i : Nat // i ≤ a.length ∧ ∀ j, j < i → a.getD j 0 = b.getD j 0}) (fun i => SSi a b i.1) (fun _ => []) (fun i => a.length - i.1) ⟨0, Nat.zero_le _, fun j hj => by omega⟩ 0 ?_ ?_ (by kernel_rfl)
 ·exact ⟨by simp [SSi, intS]; exact ⟨za _ _ _, za _ _ _⟩, by simp, by kernel_rfl, Nat.zero_le _⟩
 ·rintro ⟨i, hil, hbe⟩
  refine zc.run hmix zr [0, 1, 5] 400 (T := .ite (decide ((↑i : Int) < a.length)) (.side ((0 : Int) ≤ i ∧ (↑i : Int) < a.length) (.side ((0 : Int) ≤ i ∧ (↑i : Int) < b.length) (.ite (!decide (List.getD a (Int.toNat (↑i : Int)) (0 : Int) = List.getD b (Int.toNat (↑i : Int)) (0 : Int))) (.leaf (.ret [.bool false] [])) (.side (inR .i64 ((↑i : Int) + (1 : Int))) (.leaf (.back 0 [(0, .sl a.length 1 fun (j x : Nat) => .int .i64 (List.getD a j (0 : Int))), (1, .sl b.length 1 fun (j x : Nat) => .int .i64 (List.getD b j (0 : Int))), (5, .int .i64 ((↑i : Int) + (1 : Int)))] [])))))) (.leaf (.ret [.bool true] []))) (by kernel_rfl) ?_
  simp only [Tree.holds, zd, Int.toNat_natCast, inR, lo, hi]
  refine ⟨fun h => ?_, fun h => ?_⟩
  ·have hlt : i < a.length := by have := of_decide_eq_true h; omega
   refine ⟨by omega, fun _ => ⟨by omega, fun _ => ⟨fun h => ?_, fun h => ⟨by omega, fun _ => ?_⟩⟩⟩⟩
   ·refine RetR.scal (hq false ⟨fun g => (by cases g), fun g => ?_⟩) rfl rfl
    rw [show a = b from g] at h; simp at h
   ·rw [if_pos trivial]
    have h : a.getD i 0 = b.getD i 0 := by simpa using h
    refine ⟨⟨i + 1, hlt, fun j hj => ?_⟩, by show a.length - (i + 1) < a.length - i; omega, ⟨by simp [SSi, intS]; exact ⟨za _ _ _, za _ _ _⟩, by simp, by kernel_rfl, Nat.zero_le _⟩⟩
    by_cases e : j = i
    ·rw [e]; exact h
    ·exact hbe j (by omega)
  ·have hge : i = a.length := by have := of_decide_eq_false h; omega
   refine RetR.scal (hq true ⟨fun _ => ?_, fun _ => rfl⟩) rfl rfl
   refine List.ext_getElem hlen fun j h1 h2 => ?_
   have := hbe j (by rw [hge]; exact h1)
   simpa [List.getD, h1, h2] using this
def zap : Ctr := ctrP false (fun p : List Ev × Int => [.agg [evS p.1], .int .i64 p.2]) (fun p => evP p.1) (fun p r => r = jJ p.1 p.2 99999) (fun _ (r : EnvL × Int) => (.tup [envA r.1.1 r.1.2, .int .i64 r.2], []))
noncomputable def GRv : Nat → Option Ctr := fun f => if f = 8 then some (JA) else none
theorem zfh : ∀ g c, GRv g = some c → ze Tryz.prog g c := okIf WH (zn)
theorem zbf : ze Tryz.prog 6 zap := by
 refine zh (fn := Tryz.f6) (c := Tryz.f6.body.getD .skip) rfl rfl rfl fun p hp O w0 Q hq => ?_
 obtain ⟨l, tm⟩ := p
 replace hq := hq _ rfl
 refine zc.run hmix zfh [] 400 (T := .ex (fun (x : List Ev × Int × Int) => eqL [AV.agg [AV.sl l.length 9 (evG l)], AV.int .i64 tm, AV.int .i64 99999] [AV.agg [AV.sl x.1.length 9 (evG x.1)], AV.int .i64 x.2.1, AV.int .i64 x.2.2] ∧ evP x.1) fun n => .all (fun (r : EnvL × Int) => r = jJ n.1 n.2.1 n.2.2) fun n => .leaf (.ret [.agg [.sl n.1.1.length 3 (fxG n.1.1), .sl n.1.2.length 4 (chG n.1.2)], .int .i64 n.2] [.box [.sl l.length 9 (evG l)], .box [.sl n.1.1.length 3 (fxG n.1.1), .sl n.1.2.length 4 (chG n.1.2)], .box [.sl n.1.1.length 3 (fxG n.1.1), .sl n.1.2.length 4 (chG n.1.2)]])) (by kernel_rfl) ?_
 simp only [Tree.holds, zd]
 refine ⟨(l, tm, 99999), ⟨by simp [evS, za], hp⟩, ⟨_, rfl⟩, ?_⟩
 rintro _ rfl
 exact retE rfl hq
def SRt (l : List Ev) (id : Int) (i n : Nat) : KV := [(1, .int .i64 id), (2, .ptr 0 0), (6, .osl 1 1 0 n), (7, .int .i64 i)]
def JI : Ctr := ctrP true (fun p : List Ev × Int => [.agg [evS p.1], .int .i64 p.2]) (fun p => evP p.1) (fun p r => r = ja p.1 p.2) (fun _ (r : List Int × Int) => (.tup [intS r.1, .int .i64 r.2], []))
noncomputable def GRt : Nat → Option Ctr := fun f => if f = 17 then some (JZ) else if f = 18 then some (JE) else none
theorem zbp : ∀ g c, GRt g = some c → ze Tryz.prog g c := okIf QA (okIf Zn (zn))
theorem Yq : ze Tryz.prog 10 JI := by
 refine zh (fn := Tryz.f10) (c := Tryz.f10.body.getD .skip) rfl rfl rfl fun p hp O w0 Q hq => ?_
 obtain ⟨l, id⟩ := p
 replace hq := hq _ rfl
 refine zc.run hmix zbp [1, 2, 6, 7] 400 (T := .ex (fun (x : List Ev) => eqL [AV.agg [AV.sl l.length 9 (evG l)]] [AV.agg [AV.sl x.length 9 (evG x)]] ∧ evP x) fun n => .all (fun (r : Bool) => r = jb n) fun n => .ite (!n) (.leaf (.ret [.nils, .int .i64 8] [.box [.sl l.length 9 (evG l)]])) (.ite (!bif decide ((1 : Int) ≤ id) then decide (id ≤ (↑l.length : Int)) else false) (.leaf (.ret [.nils, .int .i64 6] [.box [.sl l.length 9 (evG l)]])) (.leaf (.loop (Prod.fst (lps K10 0)) (Prod.snd (lps K10 0)) [(1, .int .i64 id), (2, .ptr 0 0), (6, .osl 1 1 0 1), (7, .int .i64 0)] [.box [.sl l.length 9 (evG l)], .arr 1 1 (zf 1 [.int .i64 id])])))) (by kernel_rfl) ?_
 simp only [Tree.holds, zd]
 simp only [bifA]
 have hl1 : l.length < 2 ^ 40 := hp.1
 have hval := (jG (l := l)).1
 have bad : ∀ (z : Int) (h : Heap), ja l id = ([], z) → RetR JI 0 Q [.nils, .int .i64 z] h := fun z h hr => by
  simp only [hr] at hq
  exact RetR.out0 hq (fun _ => by simp [resV, new2, new1, new0, zD]) (by simp [resV, exp2, exp1, exp0, ren0, eqA2, eqL1, intS])
 refine ⟨l, ⟨by simp [evS, za], hp⟩, ⟨_, rfl⟩, ?_⟩
 rintro _ rfl
 rw [← hval]
 refine ⟨fun h => bad _ _ ?_, fun h => ⟨fun h2 => bad _ _ ?_, fun h2 => ?_⟩⟩
 ·unfold ja; rw [if_pos (by simpa using h)]
 ·unfold ja
  rw [if_neg (fun q => by rw [q] at h; cases h), if_pos]
  rw [Bool.not_eq_true', Bool.and_eq_false_iff, decide_eq_false_iff_not, decide_eq_false_iff_not] at h2
  omega
 have hv : (SS.play ⟨[], []⟩ l).isSome = true := by simpa using h
 obtain ⟨s, hs⟩ := Option.isSome_iff_exists.1 hv
 have I := (jG (l := l)).2 s hs
 have hr : ja l id = (idsT l id l.length, 0) := by
  unfold ja idsT
  rw [if_neg (by rw [hv]; decide), if_neg, List.take_length]
  rw [Bool.not_eq_false', Bool.and_eq_true, decide_eq_true_eq, decide_eq_true_eq] at h2
  omega
 simp only [hr] at hq
 refine zc.loop (ι := {i : Nat // i ≤ l.length}) (fun i => SRt l id i.1 (idsT l id i.1).length) (fun i => [.box [evS l], .arr (idsT l id i.1).length 1 (intG (idsT l id i.1))]) (fun i => l.length - i.1) ⟨0, Nat.zero_le _⟩ 0 ?_ ?_ (by kernel_rfl)
 ·refine ⟨by simp [SRt, idsT], ⟨by simp [evS, za], ⟨by simp [idsT], rfl, ?_⟩, trivial⟩, by kernel_rfl, Nat.zero_le _⟩
  intro j o hj ho
  obtain rfl : j = 0 := by omega
  obtain rfl : o = 0 := by omega
  rfl
 ·rintro ⟨i, hil⟩
  obtain ⟨m, hm⟩ : ∃ m, m = idsT l id i := ⟨_, rfl⟩
  have hml := W0 l id i
  simp only [← hm] at hml ⊢
  refine zc.run hmix zbp [1, 2, 6, 7] 400 (T := .ite (decide ((↑i : Int) < l.length)) (.side ((0 : Int) ≤ i ∧ (↑i : Int) < l.length) (.ite (decide (Ev.target (List.getD l (Int.toNat (↑i : Int)) Ev.nil) = id)) (.side (inR .i64 ((↑i : Int) + (1 : Int))) (.side (0 = 0 ∧ m.length ≤ m.length ∧ (m.length + 1) * 8 ≤ 140737488355328) (.side (inR .i64 ((↑i : Int) + (1 : Int))) (.leaf (.back 0 [(1, .int .i64 id), (2, .ptr 0 0), (6, .osl 1 1 0 (m.length + 1)), (7, .int .i64 ((↑i : Int) + (1 : Int)))] [.box [.sl l.length 9 (evG l)], .arr (m.length + 1) 1 (appG m.length (intG m) (zg (zf 1 [.int .i64 ((↑i : Int) + (1 : Int))]) 0)), .arr 1 1 (zf 1 [.int .i64 ((↑i : Int) + (1 : Int))])]))))) (.side (inR .i64 ((↑i : Int) + (1 : Int))) (.leaf (.back 0 [(1, .int .i64 id), (2, .ptr 0 0), (6, .osl 1 1 0 m.length), (7, .int .i64 ((↑i : Int) + (1 : Int)))] [.box [.sl l.length 9 (evG l)], .arr m.length 1 (intG m)]))))) (.leaf (.ret [.osl 1 1 0 m.length, .int .i64 0] [.box [.sl l.length 9 (evG l)], .arr m.length 1 (intG m)]))) (by kernel_rfl) ?_
  simp only [Tree.holds, zd, inR, lo, hi, Int.toNat_natCast, Nat.zero_add]
  refine ⟨fun hlt => ?_, fun hge => ?_⟩
  ·have hlt : i < l.length := by have := of_decide_eq_true hlt; omega
   have hsu := QD (id := id) hlt
   rw [I.ids i hlt] at hsu
   refine ⟨by omega, fun _ => ⟨fun h => ⟨by omega, fun _ => ⟨⟨trivial, Nat.le_refl _, by omega⟩, fun _ => ⟨by omega, fun _ => ?_⟩⟩⟩, fun h => ⟨by omega, fun _ => ?_⟩⟩⟩
   ·rw [if_pos trivial]
    rw [if_pos (of_decide_eq_true h), ← hm] at hsu
    refine ⟨⟨i + 1, hlt⟩, by show l.length - (i + 1) < l.length - i; omega, ⟨by simp [SRt, hsu], ⟨by simp [evS, za], ⟨by simp [hsu], rfl, ?_⟩, trivial⟩, by kernel_rfl, Nat.zero_le _⟩⟩
    simp only [hsu]
    exact Wx (za _ _ _)
   ·rw [if_pos trivial]
    rw [if_neg (of_decide_eq_false h), ← hm] at hsu
    refine ⟨⟨i + 1, hlt⟩, by show l.length - (i + 1) < l.length - i; omega, ⟨by simp [SRt, hsu], by simp [hsu, evS, za], by kernel_rfl, Nat.zero_le _⟩⟩
  ·have hge : i = l.length := by have := of_decide_eq_false hge; omega
   rw [← hge, ← hm] at hq
   refine RetR.out0 hq (fun _ => ?_) ?_
   ·simp only [resV, new2, List.mem_cons, List.not_mem_nil, or_false, forall_eq_or_imp, forall_eq, new1, new0]
    exact ⟨fun _ => by simp only [exp0, zq, frz1, qw, List.getElem?_cons_succ, List.getElem?_cons_zero, if_true, uH]; exact fun j o hj ho => rfl, rfl⟩
   ·simp [resV, exp2, exp1, exp0, zq, frz1, qw, ren0, eqA2, eqL1, intS]
    exact fun j o hj ho => by simp [zg, intG]
def zex : Ctr := ctrP true (fun p : List Ev × Int × Int × Int => [.agg [evS p.1], .int .i64 p.2.1, .int .i64 p.2.2.1, .int .i64 p.2.2.2]) (fun p => XK p.1 ∧ inR .i64 p.2.1 ∧ inR .i64 p.2.2.1 ∧ inR .i64 p.2.2.2) (fun _ r => r = true) (fun _ (r : Bool) => (.bool r, []))
noncomputable def GTe : Nat → Option Ctr := fun f => if f = 4 then some (XB) else if f = 5 then some (ze9) else if f = 6 then some (zap) else if f = 7 then some (ze5) else if f = 8 then some (JA) else if f = 9 then some (VI) else if f = 10 then some (JI) else if f = 11 then some (Vy) else if f = 12 then some (zbx) else none
theorem zf9 : ∀ g c, GTe g = some c → ze Tryz.prog g c := okIf YU (okIf zcg (okIf zbf (okIf zce (okIf WH (okIf U8 (okIf Yq (okIf zbn (okIf zal (zn)))))))))
theorem zaw : ze Tryz.prog 3 zex := by
 refine zh (fn := Tryz.f3) (c := Tryz.f3.body.getD .skip) rfl rfl rfl fun p hp O w0 Q hq => ?_
 obtain ⟨l, tm, d, id⟩ := p
 replace hq := hq _ rfl
 refine zc.run hmix zf9 [] 400 (T := .ex (fun (x : List Ev) => eqL [AV.agg [AV.sl l.length 9 (evG l)]] [AV.agg [AV.sl x.length 9 (evG x)]] ∧ XK x) fun n => .all (fun (r : Bool) => r = false → fitL n) fun n => .ite n (.leaf (.ret [.bool true] [.box [.sl l.length 9 (evG l)]])) (.ex (fun (x : List Ev × Int) => eqL [AV.agg [AV.sl l.length 9 (evG l)], AV.int .i64 tm] [AV.agg [AV.sl x.1.length 9 (evG x.1)], AV.int .i64 x.2] ∧ evP x.1) fun n => .all (fun (r : EnvL × Int) => r = zC n.1 n.2 none) fun n => .ex (fun (x : List Ev × Int) => eqL [AV.agg [AV.sl l.length 9 (evG l)], AV.int .i64 tm] [AV.agg [AV.sl x.1.length 9 (evG x.1)], AV.int .i64 x.2] ∧ evP x.1) fun n_1 => .all (fun (r : EnvL × Int) => r = jJ n_1.1 n_1.2 (99999 : Int)) fun n_2 => .ex (fun (x : List Ev × Int × Int) => eqL [AV.agg [AV.sl l.length 9 (evG l)], AV.int .i64 tm, AV.int .i64 d] [AV.agg [AV.sl x.1.length 9 (evG x.1)], AV.int .i64 x.2.1, AV.int .i64 x.2.2] ∧ evP x.1) fun n_3 => .all (fun (r : EnvL × Int) => r = xv n_3.1 n_3.2.1 n_3.2.2) fun n_4 => .ex (fun (x : List Ev × Int × Int) => eqL [AV.agg [AV.sl l.length 9 (evG l)], AV.int .i64 tm, AV.int .i64 d] [AV.agg [AV.sl x.1.length 9 (evG x.1)], AV.int .i64 x.2.1, AV.int .i64 x.2.2] ∧ evP x.1) fun n_5 => .all (fun (r : EnvL × Int) => r = jJ n_5.1 n_5.2.1 n_5.2.2) fun n_6 => .ex (fun (x : List Ev × Int) => eqL [AV.agg [AV.sl l.length 9 (evG l)], AV.int .i64 id] [AV.agg [AV.sl x.1.length 9 (evG x.1)], AV.int .i64 x.2] ∧ evP x.1) fun n_7 => .all (fun (r : List Int × Int) => r = ja n_7.1 n_7.2) fun n_8 => .ex (fun (x : List Ev × Int) => eqL [AV.agg [AV.sl l.length 9 (evG l)], AV.int .i64 id] [AV.agg [AV.sl x.1.length 9 (evG x.1)], AV.int .i64 x.2] ∧ evP x.1) fun n_9 => .all (fun (r : List Int × Int) => r = ja n_9.1 n_9.2) fun n_10 => .ex (fun (x : (List Fx × List Ch) × List Fx × List Ch) => eqL [AV.agg [AV.sl n.1.1.length 3 (fxG n.1.1), AV.sl n.1.2.length 4 (chG n.1.2)], AV.agg [AV.sl n_2.1.1.length 3 (fxG n_2.1.1), AV.sl n_2.1.2.length 4 (chG n_2.1.2)]] [AV.agg [AV.sl x.1.1.length 3 (fxG x.1.1), AV.sl x.1.2.length 4 (chG x.1.2)], AV.agg [AV.sl x.2.1.length 3 (fxG x.2.1), AV.sl x.2.2.length 4 (chG x.2.2)]] ∧ x.1.1.length < 1099511627776 ∧ x.1.2.length < 1099511627776) fun n_11 => .all (fun (r : Bool) => r = true ↔ n_11.1 = n_11.2) fun n_12 => .ex (fun (x : (List Fx × List Ch) × List Fx × List Ch) => (bif n_12 then decide (n.2 = n_2.2) else false) = true → eqL [AV.agg [AV.sl n_4.1.1.length 3 (fxG n_4.1.1), AV.sl n_4.1.2.length 4 (chG n_4.1.2)], AV.agg [AV.sl n_6.1.1.length 3 (fxG n_6.1.1), AV.sl n_6.1.2.length 4 (chG n_6.1.2)]] [AV.agg [AV.sl x.1.1.length 3 (fxG x.1.1), AV.sl x.1.2.length 4 (chG x.1.2)], AV.agg [AV.sl x.2.1.length 3 (fxG x.2.1), AV.sl x.2.2.length 4 (chG x.2.2)]] ∧ x.1.1.length < 1099511627776 ∧ x.1.2.length < 1099511627776) fun n_13 => .all (fun (x : Bool) => (bif n_12 then decide (n.2 = n_2.2) else false) = true → (x = true ↔ n_13.1 = n_13.2)) fun n_14 => .ex (fun (x : List Int × List Int) => (bif bif bif n_12 then decide (n.2 = n_2.2) else false then n_14 else false then decide (n_4.2 = n_6.2) else false) = true → eqL [AV.sl n_8.1.length 1 fun (j x : Nat) => AV.int .i64 (List.getD n_8.1 j (0 : Int)), AV.sl n_10.1.length 1 fun (j x : Nat) => AV.int .i64 (List.getD n_10.1 j (0 : Int))] [AV.sl x.1.length 1 fun (j x_1 : Nat) => AV.int .i64 (List.getD x.1 j (0 : Int)), AV.sl x.2.length 1 fun (j x_1 : Nat) => AV.int .i64 (List.getD x.2 j (0 : Int))] ∧ x.1.length < 1099511627776) fun n_15 => .all (fun (x : Bool) => (bif bif bif n_12 then decide (n.2 = n_2.2) else false then n_14 else false then decide (n_4.2 = n_6.2) else false) = true → (x = true ↔ n_15.1 = n_15.2)) fun n_16 => .leaf (.ret [.bool (bif bif bif bif bif n_12 then decide (n.2 = n_2.2) else false then n_14 else false then decide (n_4.2 = n_6.2) else false then n_16 else false then decide (n_8.2 = n_10.2) else false)] [.box [.sl l.length 9 (evG l)], .box [.sl n.1.1.length 3 (fxG n.1.1), .sl n.1.2.length 4 (chG n.1.2)], .box [.sl n_2.1.1.length 3 (fxG n_2.1.1), .sl n_2.1.2.length 4 (chG n_2.1.2)], .box [.sl n_4.1.1.length 3 (fxG n_4.1.1), .sl n_4.1.2.length 4 (chG n_4.1.2)], .box [.sl n_6.1.1.length 3 (fxG n_6.1.1), .sl n_6.1.2.length 4 (chG n_6.1.2)]]))) (by kernel_rfl) ?_
 simp only [Tree.holds, zd]
 obtain ⟨hg, _, _, _⟩ := hp
 have fin : ∀ (b : Bool) (h : Heap), b = true → RetR zex 0 Q [.bool b] h := by
  rintro b h rfl
  exact RetR.scal hq rfl rfl
 refine ⟨l, ⟨by simp [evS, za], hg⟩, ⟨true, fun g => (by cases g)⟩, ?_⟩
 intro g1 hg1
 refine ⟨fun _ => fin _ _ rfl, fun h => ?_⟩
 have hf := hg1 h
 have hl : l.length ≤ 60 := hf.1
 have hP : evP l := ⟨by omega, hf.2⟩
 have len1 := QC l tm none
 have len2 : lenE (xv l tm d).1 := by
  unfold xv
  split
  ·exact ⟨Nat.zero_le _, Nat.zero_le _⟩
  ·exact QC _ _ _
 refine ⟨(l, tm), ⟨by simp [evS, za], hP⟩, ⟨_, rfl⟩, ?_⟩
 intro a ha
 replace ha : a = zC l tm none := ha
 refine ⟨(l, tm), ⟨by simp [evS, za], hP⟩, ⟨_, rfl⟩, ?_⟩
 intro b hb
 replace hb : b = a := by rw [ha, zdy]; exact hb
 subst hb
 refine ⟨(l, tm, d), ⟨by simp [evS, za], hP⟩, ⟨_, rfl⟩, ?_⟩
 intro c hc
 replace hc : c = xv l tm d := hc
 refine ⟨(l, tm, d), ⟨by simp [evS, za], hP⟩, ⟨_, rfl⟩, ?_⟩
 intro x hx
 replace hx : x = c := by rw [hc, XN]; exact hx
 subst hx
 refine ⟨(l, id), ⟨by simp [evS, za], hP⟩, ⟨_, rfl⟩, ?_⟩
 intro t ht
 replace ht : t = ja l id := ht
 refine ⟨(l, id), ⟨by simp [evS, za], hP⟩, ⟨_, rfl⟩, ?_⟩
 intro u hu
 replace hu : u = t := by rw [ht]; exact hu
 subst hu
 rw [← ha] at len1
 rw [← hc] at len2
 have hu1 : u.1.length < 2 ^ 40 := by
  rw [ht]
  unfold ja
  split
  ·simp
  ·split
   ·simp
   ·have := List.length_filter_le (fun e : Ev => decide (e.target = id)) l
    simp only [List.length_cons, List.length_map]
    omega
 simp only [bifA, decide_true, Bool.and_true]
 refine ⟨(b.1, b.1), ⟨by simp [za], Nat.lt_of_le_of_lt len1.1 (by decide), Nat.lt_of_le_of_lt len1.2 (by decide)⟩, ⟨true, by simp⟩, ?_⟩
 intro y hy
 obtain rfl : y = true := hy.2 rfl
 refine ⟨(x.1, x.1), fun _ => ⟨by simp [za], Nat.lt_of_le_of_lt len2.1 (by decide), Nat.lt_of_le_of_lt len2.2 (by decide)⟩, ⟨true, fun _ => by simp⟩, ?_⟩
 intro y hy
 obtain rfl : y = true := (hy rfl).2 rfl
 refine ⟨(u.1, u.1), fun _ => ⟨⟨⟨rfl, rfl, za _ _ _⟩, ⟨rfl, rfl, za _ _ _⟩, trivial⟩, hu1⟩, ⟨true, fun _ => by simp⟩, ?_⟩
 intro y hy
 obtain rfl : y = true := (hy rfl).2 rfl
 exact fin _ _ rfl
end Go.Proofs.Tryz
end

/- From a reading of the arguments to their representation; from a contract to a call. -/
section
namespace Go.Sx
variable [Stat]
open Go.RowKit (Below)
def E0 : Nat → Prop := Own (fun _ => False) []
theorem zgg (b : Nat) : ¬ E0 b := by
 rintro (h | ⟨e, he, _⟩)
 ·exact h
 ·simp at he
def Tw (P : Program) (W : World) (t : TypeId) (cs : List Value) : Prop := ∃ (H : Type) (enc : TypeId × Value → H) (base fuel : Nat) (d : DataW H) (ps : List MemPlace), DataW.trod enc P W base (fun _ => true) true fuel t cs = some (d, ps) ∧ ∀ n ∈ d.weights P t, n ≤ reachBytes
section
variable {P : Program} {W : World} {t e : TypeId} {cs : List Value}
theorem Km (ht : P.underlying t = some .string) (h : Tw P W t cs) : ∃ s : List UInt8, cs = [.string ⟨s.toArray⟩] ∧ s.length ≤ reachBytes := by
 obtain ⟨H, enc, base, fuel, d, ps, h, hw⟩ := h
 obtain ⟨s, rfl, hx, _⟩ := DataW.trod_string ht h
 cases hx
 exact ⟨s.data.toList, by simp, hw _ (by simp [DataW.weights])⟩
theorem uk {k : IntKind} (ht : P.underlying t = some (.int k)) (h : Tw P W t cs) : ∃ n, cs = [.int k n] ∧ (Lit.int k n).wf = true := by
 obtain ⟨H, enc, base, fuel, d, ps, h, hw⟩ := h
 obtain ⟨n, rfl, hx, hwf⟩ := DataW.trod_int ht h
 exact ⟨n, rfl, hwf⟩
theorem zdg (ht : P.underlying t = some .bool) (h : Tw P W t cs) : ∃ b, cs = [.bool b] := by
 obtain ⟨H, enc, base, fuel, d, ps, h, hw⟩ := h
 obtain ⟨b, rfl, hx⟩ := DataW.trod_bool ht h
 exact ⟨b, rfl⟩
theorem Jo {fs : Array Field} (ht : P.underlying t = some (.struct fs)) (h : Tw P W t cs) : cs.length = P.cellsOf t ∧ ∀ (i : Nat) (f : Field), fs[i]? = some f → Tw P W f.type ((cs.drop f.offset).take (P.cellsOf f.type)) := by
 obtain ⟨H, enc, base, fuel, d, ps, h, hw⟩ := h
 obtain ⟨xs, n, _, hx, hl, hlen, hf⟩ := DataW.trod_struct ht h
 cases hx
 refine ⟨hl, fun i f hfi => ?_⟩
 have hi := hf i f hfi
 have hlt : i < xs.length := by
  rw [hlen]; exact (Array.getElem?_eq_some_iff.1 hfi).1
 rw [List.getElem?_eq_getElem hlt] at hi
 refine ⟨H, enc, base, n, xs[i].1, xs[i].2, hi, fun m hm => hw m ?_⟩
 simp only [DataW.weights, ht]
 exact DataW.weights_mem_each (j := i) (t := f.type) (d := xs[i].1) (by simp [hfi]) (by simp [hlt]) m hm
theorem k6 {H : Type} {d : DataW H} : ∀ {l : List (DataW H)}, d ∈ l → ∀ n ∈ d.weights P e, n ∈ DataW.weightsAll P e l
 | x :: l, hd, n, hn => by
  simp only [DataW.weightsAll, List.mem_append]
  rcases List.mem_cons.1 hd with rfl | hd
  ·exact .inl hn
  ·exact .inr (k6 hd n hn)
theorem UO (ht : P.underlying t = some (.slice e)) (h : Tw P W t cs) : cs = [.slice none 0 0] ∨ ∃ (a : Addr) (len cap : Nat), cs = [.slice (some a) len cap] ∧ len ≤ cap ∧ cap * P.bytesOf e ≤ reachBytes ∧
  ∀ i, i < len → ∃ cs', cs'.length = P.cellsOf e ∧ (∀ o, o < P.cellsOf e → W.cell? ((a.add (i * P.cellsOf e)).add o) = cs'[o]?) ∧ Tw P W e cs' := by
 obtain ⟨H, enc, base, fuel, d, ps, h, hw⟩ := h
 rcases DataW.trod_slice ht h with ⟨rfl, _⟩ | ⟨a, len, cap, elems, rest, n, _, rfl, hx, hb, hl, hm, hlen, hel, hsp, _⟩
 ·exact .inl rfl
 ·right
  cases hx
  obtain ⟨hrl, _⟩ := hsp rfl
  simp only [DataW.weights, ht] at hw
  refine ⟨a, len, cap, rfl, hl, ?_, fun i hi => ?_⟩
  ·have := hw _ (List.mem_cons_self)
   simp only [List.length_map, hlen, hrl] at this
   rwa [show len + (cap - len) = cap by omega] at this
  ·have h1 := hel i hi
   have hlt : i < elems.length := by rw [hlen]; exact hi
   rw [List.getElem?_eq_getElem hlt, Option.bind_eq_some_iff] at h1
   obtain ⟨cs', h2, h3⟩ := h1
   obtain ⟨_, h4, h5⟩ := World.cells?_some h2
   refine ⟨cs', h4, h5, H, enc, base, n, elems[i].1, elems[i].2, h3, fun m hm2 => hw m ?_⟩
   simp only [List.mem_cons, List.mem_append]
   exact .inr (.inl (k6 (d := elems[i].1) (List.mem_map.2 ⟨elems[i], List.getElem_mem hlt, rfl⟩) m hm2))
theorem XV {α : Type} (z : α) (cell : α → Nat → AV) (good : α → Prop) {sz : Nat} (ht : P.underlying t = some (.slice e)) (hsz : P.cellsOf e = sz) (hpos : 0 < sz)
  (hel : ∀ cs', Tw P W e cs' → ∃ x : α, good x ∧ ∀ o, o < sz → ∃ c, cs'[o]? = some c ∧ c.oneCell' = true ∧ Rep E0 W (cell x o) [] c) (h : Tw P W t cs) :
  ∃ (l : List α) (v : Value), cs = [v] ∧ (∀ x ∈ l, good x) ∧ l.length * P.bytesOf e ≤ reachBytes ∧ v.oneCell' = true ∧ Rep E0 W (.sl l.length sz fun j => cell (l.getD j z)) [] v := by
 rcases UO ht h with rfl | ⟨a, len, cap, rfl, hl, hw, hx⟩
 ·refine ⟨[], _, rfl, by simp, by simp, rfl, ?_⟩
  simp only [Rep]
  exact ⟨none, 0, rfl, Nat.le_refl _, .inl rfl⟩
 ·rw [hsz] at hx
  have hx2 : ∀ i, ∃ x : α, i < len → good x ∧ ∀ o, o < sz → ∃ c, W.cell? ((a.add (i * sz)).add o) = some c ∧ c.oneCell' = true ∧ Rep E0 W (cell x o) [] c := fun i => by
   by_cases hi : i < len
   ·obtain ⟨cs', h1, h2, h3⟩ := hx i hi
    obtain ⟨x, hg, hc⟩ := hel cs' h3
    exact ⟨x, fun _ => ⟨hg, fun o ho => by
     obtain ⟨c, g1, g2, g3⟩ := hc o ho
     exact ⟨c, by rw [h2 o ho, g1], g2, g3⟩⟩⟩
   ·exact ⟨z, fun h => absurd h hi⟩
  obtain ⟨f, hf⟩ := Classical.axiomOfChoice hx2
  have hgd : ∀ j, j < len → ((List.range len).map f).getD j z = f j := fun j hj => by simp [List.getD, hj]
  refine ⟨(List.range len).map f, _, rfl, fun x hxm => ?_, ?_, rfl, ?_⟩
  ·obtain ⟨i, hi, rfl⟩ := List.mem_map.1 hxm
   exact (hf i (List.mem_range.1 hi)).1
  ·simp only [List.length_map, List.length_range]
   exact Nat.le_trans (Nat.mul_le_mul_right _ hl) hw
  ·simp only [Rep, List.length_map, List.length_range]
   refine ⟨some a, cap, rfl, hl, ?_⟩
   rcases Nat.eq_zero_or_pos len with h0 | h0
   ·exact .inl h0
   ·right
    have hspot : a.spot = none := by
     obtain ⟨c, g1, _⟩ := (hf 0 h0).2 0 hpos
     have := World.cell?_spot g1
     simpa [Addr.add] using this
    refine ⟨a, rfl, hspot, fun j o hj ho => ⟨zgg _, ?_⟩⟩
    obtain ⟨c, g1, g2, g3⟩ := (hf j hj).2 o ho
    refine ⟨c, ?_, g2, by rw [hgd j hj]; exact g3⟩
    rw [← g1]
    obtain ⟨b, off, spot⟩ := a
    simp only at hspot
    subst hspot
    congr 1
    simp only [Addr.add]
    split <;> split <;> simp_all <;> omega
theorem YG {g : Nat} {fn : Func} {c : Code} (hf : P.funcs[g]? = some fn) (hb : fn.body = some c) (hn : (fn.name == "runtime.NumGoroutine") = false) {ctr : Ctr} (hok : ze P g ctr) {args : List AV} {vals : List Value}
  (hspec : (ctr.spec args []).holds fun r => r = (.bool true, [])) (hr : RepL E0 W args [] vals) (hst : vu E0 W) : Calls P g vals.toArray W fun e W' => e = .returned (.bool true) ∧ Below W.heap.size W W' := by
 have hn' : ¬ fn.name = "runtime.NumGoroutine" := by simpa using hn
 have hg : Good (fun _ => False) W [] := ⟨fun b h => h.elim, fun i e ad he => by simp at he, hst⟩
 have hh : HRep (Own (fun _ => False) []) W [] [] := ⟨rfl, fun i j e f a b he => by simp at he, fun i e a he => by simp at he, fun i e b he => by simp at he⟩
 rcases hok args [] _ hspec (fun _ => rfl) (fun _ => False) W [] vals hg hh hr with ⟨_, h⟩ | ⟨v, w', h, _⟩
 ·refine h.mono ?_
  rintro e W' ⟨v, rfl, r, hs, σ', hq, h1, _, _, _, _, hx⟩
  cases hq
  simp only [Rep] at h1
  subst h1
  exact ⟨rfl, hx.os, hx.tape, hx.output, hx.size, fun k hk => hx.keep k hk fun ⟨e, he, _⟩ => by simp at he⟩
 ·simp [callFunc, hf, hn', hb] at h
end
end Go.Sx
end

/- Recursive data as arguments; package-level maps that read as they are laid. -/
section
namespace Go.Sx
variable [Stat]
section
variable {P : Program} {W : World} {t e : TypeId} {cs : List Value}
end
section
open Go.WideElems Go.ChangeMaps
variable {H : Type} {enc : TypeId × Value → H} {P : Program} {W : World} {base : Nat} {sp : Nat → Bool} {held : Bool}
end
end Go.Sx
end

/- What rows hand to laws about logs: arguments as data. -/
section
set_option maxRecDepth 100000
namespace Go.Proofs.YthhkojokgcngnaaGreat
open Go Go.Sx Go.Nov Go.Proofs.Tryz Go.ChangeShapes Go.WideShapes Go.ChangeAt Go.RowKit
theorem Jh : Tryz.prog.cellsOf 9 = 1 := by kernel_rfl
theorem YR : Tryz.prog.cellsOf 46 = 1 := by kernel_rfl
theorem xj : Tryz.prog.cellsOf 3 = 1 := by kernel_rfl
theorem zb2 : Tryz.prog.cellsOf 5 = 1 := by kernel_rfl
theorem VY : Tryz.prog.cellsOf 4 = 1 := by kernel_rfl
theorem Wi : Tryz.prog.cellsOf 48 = 9 := by kernel_rfl
theorem Ys : Tryz.prog.cellsOf 22 = 1 := by kernel_rfl
theorem XP : Tryz.prog.cellsOf 24 = 1 := by kernel_rfl
theorem Uz {W : World} {cs : List Value} (h : Tw Tryz.prog W 48 cs) : ∃ x : Ev, (x.zb.length ≤ reachBytes ∧ x.name.length ≤ reachBytes ∧ x.value.length ≤ reachBytes) ∧ cs = [.int .u8 x.kind, .int .i64 x.id, .int .i64 x.entry, .int .i64 x.target, .int .i64 x.date, .string ⟨x.zb.toArray⟩, .string ⟨x.name.toArray⟩, .string ⟨x.value.toArray⟩, .bool x.first] := by
 obtain ⟨hl, hf⟩ := Jo Tryz.underlying48 h
 rw [Wi] at hl
 match cs, hl with
 | [a, b, c, d, e, f, g, h, i], _ =>
  have h0 : Tw Tryz.prog W 5 (([a, b, c, d, e, f, g, h, i].drop 0).take (Tryz.prog.cellsOf 5)) := hf 0 _ rfl
  rw [zb2] at h0
  replace h0 : Tw Tryz.prog W 5 [a] := h0
  have h1 : Tw Tryz.prog W 3 (([a, b, c, d, e, f, g, h, i].drop 1).take (Tryz.prog.cellsOf 3)) := hf 1 _ rfl
  rw [xj] at h1
  replace h1 : Tw Tryz.prog W 3 [b] := h1
  have h2 : Tw Tryz.prog W 3 (([a, b, c, d, e, f, g, h, i].drop 2).take (Tryz.prog.cellsOf 3)) := hf 2 _ rfl
  rw [xj] at h2
  replace h2 : Tw Tryz.prog W 3 [c] := h2
  have h3 : Tw Tryz.prog W 3 (([a, b, c, d, e, f, g, h, i].drop 3).take (Tryz.prog.cellsOf 3)) := hf 3 _ rfl
  rw [xj] at h3
  replace h3 : Tw Tryz.prog W 3 [d] := h3
  have h4 : Tw Tryz.prog W 3 (([a, b, c, d, e, f, g, h, i].drop 4).take (Tryz.prog.cellsOf 3)) := hf 4 _ rfl
  rw [xj] at h4
  replace h4 : Tw Tryz.prog W 3 [e] := h4
  have h5 : Tw Tryz.prog W 9 (([a, b, c, d, e, f, g, h, i].drop 5).take (Tryz.prog.cellsOf 9)) := hf 5 _ rfl
  rw [Jh] at h5
  replace h5 : Tw Tryz.prog W 9 [f] := h5
  have h6 : Tw Tryz.prog W 9 (([a, b, c, d, e, f, g, h, i].drop 6).take (Tryz.prog.cellsOf 9)) := hf 6 _ rfl
  rw [Jh] at h6
  replace h6 : Tw Tryz.prog W 9 [g] := h6
  have h7 : Tw Tryz.prog W 46 (([a, b, c, d, e, f, g, h, i].drop 7).take (Tryz.prog.cellsOf 46)) := hf 7 _ rfl
  rw [YR] at h7
  replace h7 : Tw Tryz.prog W 46 [h] := h7
  have h8 : Tw Tryz.prog W 4 (([a, b, c, d, e, f, g, h, i].drop 8).take (Tryz.prog.cellsOf 4)) := hf 8 _ rfl
  rw [VY] at h8
  replace h8 : Tw Tryz.prog W 4 [i] := h8
  obtain ⟨x0, y0, w0⟩ := uk Tryz.underlying5 h0
  obtain ⟨x1, y1, w1⟩ := uk Tryz.underlying3 h1
  obtain ⟨x2, y2, w2⟩ := uk Tryz.underlying3 h2
  obtain ⟨x3, y3, w3⟩ := uk Tryz.underlying3 h3
  obtain ⟨x4, y4, w4⟩ := uk Tryz.underlying3 h4
  obtain ⟨x5, y5, w5⟩ := Km Tryz.underlying9 h5
  obtain ⟨x6, y6, w6⟩ := Km Tryz.underlying9 h6
  obtain ⟨x7, y7, w7⟩ := Km Tryz.underlying46 h7
  obtain ⟨x8, y8⟩ := zdg Tryz.underlying4 h8
  cases y0; cases y1; cases y2; cases y3; cases y4; cases y5; cases y6; cases y7; cases y8
  exact ⟨⟨x0, x1, x2, x3, x4, x5, x6, x7, x8⟩, ⟨w5, w6, w7⟩, rfl⟩
theorem Ya {W : World} {cs : List Value} (h : Tw Tryz.prog W 24 cs) : ∃ l : List Ev, XK l ∧ Rep E0 W (.agg [evS l]) [] (.agg cs.toArray) := by
 obtain ⟨hl, hf⟩ := Jo Tryz.underlying24 h
 rw [XP] at hl
 match cs, hl with
 | [a], _ =>
  have h0 : Tw Tryz.prog W 22 (([a].drop 0).take (Tryz.prog.cellsOf 22)) := hf 0 _ rfl
  rw [Ys] at h0
  replace h0 : Tw Tryz.prog W 22 [a] := h0
  obtain ⟨l, v, e1, gl, wl, _, rl⟩ := XV Ev.nil Ev.cell (fun x => x.zb.length ≤ reachBytes ∧ x.name.length ≤ reachBytes ∧ x.value.length ≤ reachBytes) Tryz.underlying22 Wi (by decide) (fun cs' h' => by
   obtain ⟨x, hx, rfl⟩ := Uz h'
   refine ⟨x, hx, fun o ho => ?_⟩
   match o, ho with
   | 0, _ => exact ⟨_, rfl, rfl, by simp [Rep, Ev.cell]⟩
   | 1, _ => exact ⟨_, rfl, rfl, by simp [Rep, Ev.cell]⟩
   | 2, _ => exact ⟨_, rfl, rfl, by simp [Rep, Ev.cell]⟩
   | 3, _ => exact ⟨_, rfl, rfl, by simp [Rep, Ev.cell]⟩
   | 4, _ => exact ⟨_, rfl, rfl, by simp [Rep, Ev.cell]⟩
   | 5, _ => exact ⟨_, rfl, rfl, by simp [Rep, Ev.cell]⟩
   | 6, _ => exact ⟨_, rfl, rfl, by simp [Rep, Ev.cell]⟩
   | 7, _ => exact ⟨_, rfl, rfl, by simp [Rep, Ev.cell]⟩
   | 8, _ => exact ⟨_, rfl, rfl, by simp [Rep, Ev.cell]⟩) h0
  have b1 : Tryz.prog.bytesOf 48 = 96 := by kernel_rfl
  rw [b1] at wl
  have hr := reachBytes_lt
  refine ⟨l, ⟨by omega, fun j hj => ?_⟩, ?_⟩
  ·have := gl (l.getD j Ev.nil) (by simp [List.getD, hj])
   exact ⟨by omega, by omega, by omega⟩
  ·simp only [RepL, Rep]
   cases e1
   exact ⟨_, rfl, _, _, rfl, rl, rfl⟩
theorem JH {W : World} {cs : List Value} (h : Tw Tryz.prog W 3 cs) : ∃ n : Int, cs = [.int .i64 n] ∧ inR .i64 n ∧ Rep E0 W (.int .i64 n) [] (.int .i64 n) := by
 obtain ⟨n, rfl, hn⟩ := uk Tryz.underlying3 h
 refine ⟨n, rfl, ?_, by simp [Rep]⟩
 simp only [Lit.wf, Bool.and_eq_true, decide_eq_true_eq] at hn
 exact hn
end Go.Proofs.YthhkojokgcngnaaGreat
end

/- For every input the law returns true, and each argument reads behind the call as it read before. -/
section
set_option maxRecDepth 100000
namespace Go.Proofs.YthhkojokgcngnaaGreat
open Go Go.Sx Go.Nov Go.Proofs.Tryz Go.ChangeShapes Go.WideShapes Go.ChangeAt Go.RowKit
theorem walk {W : World} {v0 v1 v2 v3 : List Value} (h0 : Tw Tryz.prog W 24 v0) (h1 : Tw Tryz.prog W 3 v1) (h2 : Tw Tryz.prog W 3 v2) (h3 : Tw Tryz.prog W 3 v3) :
  ∃ s1 : Value, v1 = [s1] ∧ ∃ s2 : Value, v2 = [s2] ∧ ∃ s3 : Value, v3 = [s3] ∧ Calls Tryz.prog 3 #[.agg v0.toArray, s1, s2, s3] W fun e W' => e = .returned (.bool true) ∧ Below W.heap.size W W' := by
 obtain ⟨l, lg, lr⟩ := Ya h0
 obtain ⟨tm, rfl, tmg, tmr⟩ := JH h1
 obtain ⟨d, rfl, dg, dr⟩ := JH h2
 obtain ⟨id, rfl, idg, idr⟩ := JH h3
 refine ⟨_, rfl, ?_⟩
 refine ⟨_, rfl, ?_⟩
 refine ⟨_, rfl, ?_⟩
 refine YG (fn := Tryz.f3) (c := Tryz.f3.body.getD .skip) rfl rfl rfl zaw (args := [.agg [evS l], .int .i64 tm, .int .i64 d, .int .i64 id]) (vals := [.agg v0.toArray, .int .i64 tm, .int .i64 d, .int .i64 id]) ?_ ?_ Y8
 ·refine ⟨(l, tm, d, id), ⟨?_, ⟨lg, tmg, dg, idg⟩⟩, ⟨true, rfl⟩, ?_⟩
  ·simp [eqL, eqA, eqA0, eqL0, envA, fxS, chS, Fx.av, Ch.av, Ex.exA, Ex.exS, evS,Ev.av, za]
  ·rintro _ rfl
   rfl
 ·exact ⟨_, _, rfl, lr, ⟨_, _, rfl, tmr, ⟨_, _, rfl, dr, ⟨_, _, rfl, idr, rfl⟩⟩⟩⟩
theorem own : ownKnob Tryz.prog.godebug = none := by kernel_rfl
theorem laid : laidOutB Tryz.prog = true := by kernel_rfl
theorem lifted (os : Os) (started : os.Started) (H : Type) (enc : TypeId × Value → H) :
  ReturnsInHanded {} Tryz.checked os 3 .any (Rows.storeTellsSpec.pre6 enc Tryz.prog Tryz.f3 Rows.storeTellsRow.domain false) (Rows.storeTellsSpec.post enc Tryz.prog Tryz.f3 false true false false) := by
 refine returnsInHanded_of_change_sized (C := Tryz.checked) own started (by kernel_rfl) Tryz.func3
  (ChangeSpec.witness6 (enc := enc) (C := Tryz.checked) false ⟨#[], #[.agg #[.slice none 0 0], .int .i64 0, .int .i64 0, .int .i64 0], []⟩ 8 (by kernel_rfl) (by kernel_rfl) (by kernel_rfl) (by kernel_rfl)) ?_
 intro W base args ds gs before hval0 hW hcnd hwt _
 have hval : ∀ (j : Nat) t v, Tryz.f3.params[j]? = some t → args[j]? = some v → Value.okWide Tryz.prog W .any base t v := hval0
 have hW' := hW
 obtain ⟨p, q, hA0, hV, rfl, hfz, hnd⟩ := hW
 have hA : DataW.TrodAll enc Tryz.prog W 0 (fun _ => true) true Tryz.f3.params.toList args.toList ds p := hA0
 rw [Tryz.params3] at hA hval
 obtain ⟨v0, vs0, d0, ds0, p0, q0, hargs, rfl, rfl, h0, r0⟩ := trodAll_cons hA
 obtain ⟨v1, vs1, d1, ds1, p1, q1, rfl, rfl, rfl, h1, r1⟩ := trodAll_cons r0
 obtain ⟨v2, vs2, d2, ds2, p2, q2, rfl, rfl, rfl, h2, r2⟩ := trodAll_cons r1
 obtain ⟨v3, vs3, d3, ds3, p3, q3, rfl, rfl, rfl, h3, r3⟩ := trodAll_cons r2
 obtain ⟨rfl, rfl, rfl⟩ := trodAll_nil r3
 obtain rfl : args = #[v0, v1, v2, v3] := by cases args; simp_all
 obtain ⟨rfl, rfl⟩ := trodVars_none hV
 clear hA0 hval0
 simp only [List.append_nil] at hW' hwt
 have hw : ∀ (j : Nat) (t : TypeId) (d : DataW H), [24, 3, 3, 3][j]? = some t → [d0, d1, d2, d3][j]? = some d → ∀ n ∈ d.weights Tryz.prog t, n ≤ reachBytes := fun j t d ht hd n hn => by
  have := List.all_eq_true.1 hwt n (DataW.weights_mem_each (j := j) (t := t) (d := d) (by exact ht) (by exact hd) n hn)
  simpa using this
 obtain ⟨c0, rfl, _⟩ := okWide_struct Tryz.underlying24 (hval 0 24 v0 rfl rfl)
 obtain ⟨c1, rfl⟩ := okWide_int Tryz.underlying3 (hval 1 3 v1 rfl rfl)
 obtain ⟨c2, rfl⟩ := okWide_int Tryz.underlying3 (hval 2 3 v2 rfl rfl)
 obtain ⟨c3, rfl⟩ := okWide_int Tryz.underlying3 (hval 3 3 v3 rfl rfl)
 have t0 : Tw Tryz.prog W 24 c0.toList := by
  obtain ⟨fuel, hf⟩ := h0
  exact ⟨H, enc, 0, fuel, d0, p0, by simpa [Value.cells] using hf, hw 0 _ d0 rfl rfl⟩
 have t1 : Tw Tryz.prog W 3 [.int .i64 c1] := by
  obtain ⟨fuel, hf⟩ := h1
  exact ⟨H, enc, 0, fuel, d1, p1, by simpa [Value.cells] using hf, hw 1 _ d1 rfl rfl⟩
 have t2 : Tw Tryz.prog W 3 [.int .i64 c2] := by
  obtain ⟨fuel, hf⟩ := h2
  exact ⟨H, enc, 0, fuel, d2, p2, by simpa [Value.cells] using hf, hw 2 _ d2 rfl rfl⟩
 have t3 : Tw Tryz.prog W 3 [.int .i64 c3] := by
  obtain ⟨fuel, hf⟩ := h3
  exact ⟨H, enc, 0, fuel, d3, p3, by simpa [Value.cells] using hf, hw 3 _ d3 rfl rfl⟩
 have hlt : ∀ x ∈ p0 ++ (p1 ++ (p2 ++ p3)), x.block < W.heap.size := fun x hx => by simpa using hW'.lt x (by simpa using hx)
 obtain ⟨s1, e1, s2, e2, s3, e3, hcall⟩ := walk t0 t1 t2 t3
 cases e1
 cases e2
 cases e3
 simp only [Array.toArray_toList] at hcall
 refine hcall.mono fun e W' ⟨he, hb⟩ => ?_
 subst he
 refine ⟨_, rfl, _, _, _, [], p0 ++ (p1 ++ (p2 ++ p3)), [], hW', trodAll_mk1 (shut_bool Tryz.underlying4 true), ?_, rfl, hb.frame _, fun h => by cases h⟩
 exact trodAll_mk4 (Below.trod laid (by kernel_rfl) (of_decide_eq_true (by kernel_rfl)) h0 hb fun x hx => hlt x (by simp [hx])) (Below.trod laid (by kernel_rfl) (of_decide_eq_true (by kernel_rfl)) h1 hb fun x hx => hlt x (by simp [hx])) (Below.trod laid (by kernel_rfl) (of_decide_eq_true (by kernel_rfl)) h2 hb fun x hx => hlt x (by simp [hx])) (Below.trod laid (by kernel_rfl) (of_decide_eq_true (by kernel_rfl)) h3 hb fun x hx => hlt x (by simp [hx]))
theorem over : Rows.storeTellsRow.holds Tryz.pinned (OpenSpec.ofChange Rows.storeTellsSpec) :=
 OpenClaim.holds_of_wide 3 Tryz.f3 rfl rfl rfl rfl rfl rfl rfl ⟨rfl, rfl, rfl, rfl, rfl⟩ rfl rfl rfl rfl rfl (by kernel_rfl) Tryz.func3 (by kernel_rfl)
  (of_decide_eq_true (by kernel_rfl)) (by unfold Func.isWrapper; first | (rw [if_pos (by decide +kernel)]; kernel_rfl) | (rw [if_neg (by decide +kernel)]; exact ⟨rfl, rfl⟩))
  (fun os started H enc _ => lifted os started H enc)
theorem storeTells_holds : Rows.StoreTellsSaid := over
end Go.Proofs.YthhkojokgcngnaaGreat
end
