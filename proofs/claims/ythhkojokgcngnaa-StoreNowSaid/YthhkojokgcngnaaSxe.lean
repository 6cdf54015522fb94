/- Part 5 of the proof. -/
import Derived.Test.YthhkojokgcngnaaSxa
import Derived.Test.YthhkojokgcngnaaSxd
import Derived.Test.YthhkojokgcngnaaProg
import Derived.Lib.Strings
import Derived.Lib.Slices
import Derived.Lib.Walk
import Derived.Lib.Bytealg
set_option linter.unusedVariables false
set_option linter.unusedSimpArgs false
set_option linter.unusedSectionVars false

/- The integers' magnitudes: what the small functions compute. -/
section
set_option maxRecDepth 100000
open Go Go.Sx Go.Proofs Go.Nov
namespace Go.Proofs.Try
attribute [local simp] eqKV eqA eqA0 eqH eqB eqL eqL0
noncomputable def K97 : List Go.Sx.Item := [.code (Try.f97.body.getD .skip)]
theorem hmix : Try.prog.follows .mixedOrders = true := by decide +kernel
def noG : Nat → Option Ctr := fun _ => none
theorem z7 : ∀ g c, noG g = some c → zd Try.prog g c := fun _ _ h => by cases h
def zbi : AV → Nat
 | .int _ n => n.toNat
 | _ => 0
def decN (n : Nat) (g : Nat → Nat → AV) : List Nat := (List.range n).map fun j => zbi (g j 0)
theorem yc (k : IntKind) (l : List Nat) : decN l.length (natG k l) = l := by
 apply List.ext_getElem (by simp [decN])
 intro j h1 h2
 simp [decN, natG, zbi, h2]
theorem za (n sz : Nat) (g : Nat → Nat → AV) : eqG n sz g g := fun _ _ _ _ => rfl
theorem uL {k : IntKind} {l : List Nat} {v : Int} (hv : 0 ≤ v) : eqG (l.length + 1) 1 (appG l.length (natG k l) (zg (zf 1 [.int k v]) 0)) (natG k (l ++ [v.toNat])) := by
 intro j o hj ho
 have ho : o = 0 := by omega
 subst ho
 simp only [appG, zg, zf, natG]
 by_cases h : j < l.length
 ·simp [h, List.getElem?_append]
 ·have : j = l.length := by omega
  subst this
  simp [Int.toNat_of_nonneg hv]
theorem kH {k : IntKind} {o : List Nat} {v : Int} {d : Nat} {r : Heap} (hv : v = d) : eqH (.arr (o.length + 1) 1 (appG o.length (natG k o) (zg (zf 1 [.int k v]) 0)) :: r) [.arr (o ++ [d]).length 1 (natG k (o ++ [d]))] := by
 subst hv
 refine ⟨⟨by simp, rfl, ?_⟩, by simp [eqH]⟩
 have := uL (k := k) (l := o) (v := (d : Int)) (by omega)
 simpa using this
theorem wO {k : IntKind} {l : List Nat} {v : Int} {i : Nat} (hv : 0 ≤ v) (hi : i < l.length) : eqG l.length 1 (updG (natG k l) i 0 [.int k v]) (natG k (l.set i v.toNat)) := by
 intro j o hj ho
 have ho : o = 0 := by omega
 subst ho
 simp only [updG, natG, List.length_cons, List.length_nil]
 by_cases h : j = i
 ·subst h
  simp [hj, Int.toNat_of_nonneg hv]
 ·simp only [h, false_and, if_false]
  simp [List.getElem?_set_ne (fun e => h e.symm)]
def magS (x : Nat) : AV := natS .u32 (canon x)
def fits (x : Nat) : Prop := (canon x).length < 1000000
theorem JD {m off n : Nat} {k : IntKind} {o : List Nat} {r : Heap} : new0 (.arr m 1 (natG k o) :: r) [] (.osl 0 1 off n) := by
 intro _
 simp only [exp0, zp, frz1, qM, List.getElem?_cons_zero, if_true]
 intro j o' _ _
 rfl
theorem JB {m off n : Nat} {g : Nat → Nat → AV} {r : Heap} : exp0 (.arr m 1 g :: r) [] (.osl 0 1 off n) = .sl n 1 (zg g off) := by
 simp [exp0, zp, frz1, qM]
theorem Qk {k : IntKind} {o l : List Nat} (h : qQ o = l) : eqA0 (.sl (tlen o) 1 (zg (natG k o) 0)) (natS k l) := by
 subst h
 simp only [eqA0, natS, qQ, List.length_take, true_and]
 refine ⟨by have := qi o; omega, ?_⟩
 intro j o' hj ho'
 have : o' = 0 := by omega
 subst this
 simp [zg, natG, List.getElem?_take, hj]
def ctr2 {R : Type} (fresh : Bool) (pre : Nat → Nat → Prop) (post : Nat → Nat → R → Prop) (out : Nat → Nat → R → AV × Heap) : Ctr :=
 ctrP fresh (fun p : Nat × Nat => [magS p.1, magS p.2]) (fun p => pre p.1 p.2) (fun p => post p.1 p.2) (fun p => out p.1 p.2)
theorem uy {R : Type} {fresh : Bool} {pre : Nat → Nat → Prop} {post : Nat → Nat → R → Prop} {out : Nat → Nat → R → AV × Heap} {g : Nat} {fn : Func} {c : Code} (hf : Try.prog.funcs[g]? = some fn) (hb : fn.body = some c) (hn : (fn.name == "runtime.NumGoroutine") = false)
  (H : ∀ x y, pre x y → ∀ (O : Nat → Prop) (w0 : World) (Q : AV × Heap → Prop), (∀ r, post x y r → Q (out x y r)) → zc Try.prog fn O 0 w0 [] (fun _ _ _ => False) (RetR (ctr2 fresh pre post out) 0 Q) [.code c] (entry fn [magS x, magS y])) : zd Try.prog g (ctr2 fresh pre post out) :=
 zm hf hb hn fun p hp => H p.1 p.2 hp
def yR : Ctr where
 fresh := false
 spec args hc := match args, hc with
  | [.sl n 1 g], [] => .ex (fun l : List Nat => dig l ∧ l.length = n ∧ n < 2 ^ 62 ∧ eqG n 1 g (natG .u32 l)) fun l => .all (fun x => x = val l) fun x => .leaf (magS x, [])
  | [.osl 0 1 off n], [.arr m 1 g] => .ex (fun u : List Nat => u.length = m ∧ off + n ≤ m ∧ n < 2 ^ 62 ∧ eqG m 1 g (natG .u32 u) ∧ dig ((u.drop off).take n)) fun u => .all (fun x => x = val ((u.drop off).take n)) fun x => .leaf (.osl 0 1 off (canon x).length, [.arr m 1 g])
  | _, _ => .fail
def S75o (off n : Nat) : KV := [(0, .osl 0 1 off n)]
def S75 (l : List Nat) (n : Nat) : KV := [(0, .sl n 1 (natG .u32 l))]
theorem QV : zd Try.prog 97 yR := by
 intro args hc Q hq hfr
 unfold yR at hq
 dsimp only at hq
 split at hq
 ·rename_i n g
  obtain ⟨l, ⟨hdl, hln, hn, hg⟩, _, hq⟩ := hq
  obtain ⟨x, hv⟩ : ∃ x, val l = x := ⟨_, rfl⟩
  replace hq := hq x hv.symm
  have hcan : qQ l = canon x := by rw [zY hdl, hv]
  simp only [magS, ← hcan] at hq
  refine qh.le (args' := [natS .u32 l]) (by simp [natS, hln, hg]) (fn_k (fn := Try.f97) (c := Try.f97.body.getD .skip) rfl rfl rfl hfr fun O w0 σ0 h0 => ?_)
  refine zc.run hmix z7 [0] 400 (T := .leaf (.loop (Prod.fst (lps K97 0)) (Prod.snd (lps K97 0)) [(0, .sl l.length 1 (natG .u32 l))] [])) (by kernel_rfl) ?_
  refine zc.loop (ι := {n : Nat // tlen l ≤ n ∧ n ≤ l.length}) (fun x => S75 l x.1) (fun _ => []) (fun x => x.1) ⟨l.length, qi l, Nat.le_refl _⟩ 0 ?_ ?_ (by kernel_rfl)
  ·exact ⟨by simp [S75, eqG], by simp, by kernel_rfl, Nat.zero_le _⟩
  ·rintro ⟨n, h1, h2⟩
   refine zc.run hmix z7 [0] 400 (T := .side (decide ((0 : Int) < n) = true → inR .i64 ((↑n : Int) - (1 : Int))) (.side (decide ((0 : Int) < n) = true → (0 : Int) ≤ n - (1 : Int) ∧ (↑n : Int) - (1 : Int) < n) (.ite (bif decide ((0 : Int) < n) then decide ((↑(List.getD l (Int.toNat ((↑n : Int) - (1 : Int))) 0) : Int) = 0) else false) (.side (inR .i64 ((↑n : Int) - (1 : Int))) (.side ((0 : Int) ≤ n - (1 : Int) ∧ (↑n : Int) - (1 : Int) ≤ n) (.leaf (.back 0 [(0, .sl (Int.toNat ((↑n : Int) - (1 : Int)) - 0) 1 (zg (natG .u32 l) 0))] [])))) (.leaf (.ret [.sl n 1 (natG .u32 l)] []))))) (by kernel_rfl) ?_
   simp only [Tree.holds, ze, inR, lo, hi, Bool.cond_eq_ite]
   refine ⟨by simp; omega, fun _ => ⟨by simp; omega, fun _ => ⟨fun h => ?_, fun h => ?_⟩⟩⟩
   ·have hp : 0 < n := by
     rcases Nat.eq_zero_or_pos n with rfl | hp
     ·simp at h
     ·exact hp
    have e : ((n : Int) - 1).toNat = n - 1 := by omega
    have hz : l.getD (n - 1) 0 = 0 := by
     rw [if_pos (by simpa using hp), e] at h
     simpa only [decide_eq_true_eq, Int.natCast_eq_zero] using h
    refine ⟨by omega, fun _ => ⟨by omega, fun _ => ?_⟩⟩
    rw [if_pos trivial]
    refine ⟨⟨n - 1, ?_, by omega⟩, by show n - 1 < n; omega, by simp [S75, eqG, zg, e], by simp, by kernel_rfl, Nat.zero_le _⟩
    rcases Nat.lt_or_ge (n - 1) (tlen l) with h3 | h3
    ·have h4 : tlen l - 1 = n - 1 := by omega
     exact absurd (h4 ▸ hz) (qk l (by omega))
    ·exact h3
   ·have hn : n = tlen l := by
     rcases Nat.lt_or_ge (tlen l) n with h3 | h3
     ·exfalso
      have e : ((n : Int) - 1).toNat = n - 1 := by omega
      rw [if_pos (by simp; omega), e] at h
      have := j8 l (n - 1) (by omega)
      simp only [decide_eq_false_iff_not, Int.natCast_eq_zero] at h
      exact h this
     ·omega
    subst hn
    refine ⟨[], rfl, by simp, by simp, by simp [yR], _, [], zN ?_, by simp, rfl, hq⟩
    have := qi l
    simp only [resV, exp2, exp1, exp0, ren0, eqA2, eqA, natS, eqA0, qQ, List.length_take, Nat.min_eq_left this, true_and]
    intro j o hj ho
    simp only [natG, List.getD, List.getElem?_take, if_pos hj]
 ·rename_i off n m g
  obtain ⟨l, ⟨hlm, hm, hn, hg, hdl⟩, _, hq⟩ := hq
  obtain ⟨x, hv⟩ : ∃ x, val ((l.drop off).take n) = x := ⟨_, rfl⟩
  replace hq := hq x hv.symm
  subst hlm
  simp only [← hv, ← Wy hdl] at hq
  refine qh.leH (hc' := [.arr l.length 1 (natG .u32 l)]) (by simp [hg]) rfl (fn_k (fn := Try.f97) (c := Try.f97.body.getD .skip) rfl rfl rfl (by simp [yR]) fun O w0 σ0 h0 => ?_)
  refine zc.run hmix z7 [0] 400 (T := .leaf (.loop (Prod.fst (lps K97 0)) (Prod.snd (lps K97 0)) [(0, .osl 0 1 off n)] [.arr l.length 1 (natG .u32 l)])) (by kernel_rfl) ?_
  have hget : ∀ j, j < n → ((l.drop off).take n).getD j 0 = l.getD (off + j) 0 := by
   intro j hj
   simp [List.getElem?_take, hj, List.getElem?_drop]
  have htl : tlen ((l.drop off).take n) ≤ n := by
   have := qi ((l.drop off).take n)
   simp at this; omega
  refine zc.loop (ι := {k : Nat // tlen ((l.drop off).take n) ≤ k ∧ k ≤ n}) (fun x => S75o off x.1) (fun _ => [.arr l.length 1 (natG .u32 l)]) (fun x => x.1) ⟨n, htl, Nat.le_refl _⟩ 0 ?_ ?_ (by kernel_rfl)
  ·exact ⟨by simp [S75o], by simp [eqG], by kernel_rfl, Nat.le_refl _⟩
  ·rintro ⟨k, h1, h2⟩
   refine zc.run hmix z7 [0] 400 (T := .side (decide ((0 : Int) < k) = true → inR .i64 ((↑k : Int) - (1 : Int))) (.side (decide ((0 : Int) < k) = true → (0 : Int) ≤ k - (1 : Int) ∧ (↑k : Int) - (1 : Int) < k) (.ite (bif decide ((0 : Int) < k) then decide ((↑(List.getD l (off + Int.toNat ((↑k : Int) - (1 : Int))) 0) : Int) = 0) else false) (.side (inR .i64 ((↑k : Int) - (1 : Int))) (.side ((0 : Int) ≤ k - (1 : Int) ∧ (↑k : Int) - (1 : Int) ≤ k) (.leaf (.back 0 [(0, .osl 0 1 (off + 0) (Int.toNat ((↑k : Int) - (1 : Int)) - 0))] [.arr l.length 1 (natG .u32 l)])))) (.leaf (.ret [.osl 0 1 off k] [.arr l.length 1 (natG .u32 l)]))))) (by kernel_rfl) ?_
   simp only [Tree.holds, ze, inR, lo, hi, Bool.cond_eq_ite]
   refine ⟨by simp; omega, fun _ => ⟨by simp; omega, fun _ => ⟨fun h => ?_, fun h => ?_⟩⟩⟩
   ·have hp : 0 < k := by
     rcases Nat.eq_zero_or_pos k with rfl | hp
     ·simp at h
     ·exact hp
    have e : ((k : Int) - 1).toNat = k - 1 := by omega
    have hz : ((l.drop off).take n).getD (k - 1) 0 = 0 := by
     rw [if_pos (by simpa using hp), e] at h
     rw [hget _ (by omega)]
     simpa only [decide_eq_true_eq, Int.natCast_eq_zero] using h
    refine ⟨by omega, fun _ => ⟨by omega, fun _ => ?_⟩⟩
    rw [if_pos trivial]
    refine ⟨⟨k - 1, ?_, by omega⟩, by show k - 1 < k; omega, by simp [S75o, e], by simp [eqG], by kernel_rfl, Nat.le_refl _⟩
    rcases Nat.lt_or_ge (k - 1) (tlen ((l.drop off).take n)) with h3 | h3
    ·have h4 : tlen ((l.drop off).take n) - 1 = k - 1 := by omega
     exact absurd (h4 ▸ hz) (qk _ (by omega))
    ·exact h3
   ·have hn : k = tlen ((l.drop off).take n) := by
     rcases Nat.lt_or_ge (tlen ((l.drop off).take n)) k with h3 | h3
     ·exfalso
      have e : ((k : Int) - 1).toNat = k - 1 := by omega
      rw [if_pos (by simp; omega), e] at h
      have := j8 ((l.drop off).take n) (k - 1) (by omega)
      rw [hget _ (by omega)] at this
      simp only [decide_eq_false_iff_not, Int.natCast_eq_zero] at h
      exact h this
     ·omega
    subst hn
    exact ⟨[0], rfl, by simp, by simp, by simp [yR], _, [.arr l.length 1 g], zN (by simp [resV, exp2, exp1, exp0, zp, eqA2]), ⟨⟨rfl, rfl, fun j o hj ho => (hg j o hj ho).symm⟩, trivial⟩, rfl, hq⟩
 ·exact hq.elim
end Go.Proofs.Try
end

/- The integers' magnitudes: comparison, subtraction, short division. -/
section
set_option maxRecDepth 100000
open Go Go.Sx Go.Proofs Go.Nov
namespace Go.Proofs.Try
attribute [local simp] eqKV eqA eqA0 eqH eqB eqL eqL0
noncomputable def K95 : List Go.Sx.Item := [.code (Try.f95.body.getD .skip)]
noncomputable def K100 : List Go.Sx.Item := [.code (Try.f100.body.getD .skip)]
def cmp3 (x y : Nat) : Int := if x < y then -1 else if y < x then 1 else 0
def Wt : Ctr := ctr2 true (fun x y => fits x ∧ fits y) (fun x y r => r = cmp3 x y) (fun _ _ r => (.int .i64 r, []))
def S73 (x y k : Nat) : KV := [(0, magS x), (1, magS y), (5, .int .i64 ((k : Int) - 1))]
theorem V3 : zd Try.prog 95 Wt := by
 refine uy (fn := Try.f95) (c := Try.f95.body.getD .skip) rfl rfl rfl fun x y hp O w0 Q hq => ?_
 replace hq := hq _ rfl
 obtain ⟨hx, hy⟩ := hp
 simp only [fits] at hx hy
 refine zc.run hmix z7 [0, 1, 5] 400 (T := .ite (!decide ((↑(canon x).length : Int) = (↑(canon y).length : Int))) (.side (inR .i64 ((↑(canon x).length : Int) - (↑(canon y).length : Int))) (.leaf (.ret [.int .i64 (max (-1 : Int) (min (1 : Int) ((↑(canon x).length : Int) - (↑(canon y).length : Int))))] []))) (.side (inR .i64 ((↑(canon x).length : Int) - (1 : Int))) (.leaf (.loop (Prod.fst (lps K95 0)) (Prod.snd (lps K95 0)) [(0, .sl (canon x).length 1 (natG .u32 (canon x))), (1, .sl (canon y).length 1 (natG .u32 (canon y))), (5, .int .i64 ((↑(canon x).length : Int) - (1 : Int)))] [])))) (by kernel_rfl) ?_
 simp only [Tree.holds, ze, inR, lo, hi, Bool.cond_eq_ite]
 refine ⟨fun h => ⟨by omega, fun _ => RetR.scal hq rfl ?_⟩, fun h => ⟨by omega, fun _ => ?_⟩⟩
 ·simp only [resV, cmp3]
  congr 1
  have hne : (canon x).length ≠ (canon y).length := by
   simp only [Bool.not_eq_true', decide_eq_false_iff_not] at h
   omega
  rcases Nat.lt_or_gt_of_ne hne with h1 | h1
  ·have := zX h1
   rw [if_pos this]; omega
  ·have := zX h1
   rw [if_neg (by omega), if_pos this]; omega
 ·have hlen : (canon x).length = (canon y).length := by
   simp only [Bool.not_eq_false', decide_eq_true_eq] at h
   omega
  refine zc.loop (ι := {k : Nat // k ≤ (canon x).length ∧ ∀ j, k ≤ j → (canon x).getD j 0 = (canon y).getD j 0}) (fun k => S73 x y k.1) (fun _ => []) (fun k => k.1) ⟨(canon x).length, Nat.le_refl _, fun j hj => by simp [hj, hlen ▸ hj]⟩ 0 ?_ ?_ (by kernel_rfl)
  ·exact ⟨by simp [S73, magS, natS, za], by simp, by kernel_rfl, Nat.zero_le _⟩
  ·rintro ⟨k, h1, h2⟩
   refine zc.run hmix z7 [0, 1, 5] 400 (T := .ite (decide ((0 : Int) ≤ k - (1 : Int))) (.side ((0 : Int) ≤ k - (1 : Int) ∧ (↑k : Int) - (1 : Int) < (↑(canon x).length : Int)) (.side ((0 : Int) ≤ k - (1 : Int) ∧ (↑k : Int) - (1 : Int) < (↑(canon y).length : Int)) (.ite (!decide ((↑(List.getD (canon x) (Int.toNat ((↑k : Int) - (1 : Int))) 0) : Int) = (↑(List.getD (canon y) (Int.toNat ((↑k : Int) - (1 : Int))) 0) : Int))) (.side ((0 : Int) ≤ k - (1 : Int) ∧ (↑k : Int) - (1 : Int) < (↑(canon x).length : Int)) (.side ((0 : Int) ≤ k - (1 : Int) ∧ (↑k : Int) - (1 : Int) < (↑(canon y).length : Int)) (.ite (decide ((↑(List.getD (canon x) (Int.toNat ((↑k : Int) - (1 : Int))) 0) : Int) < (↑(List.getD (canon y) (Int.toNat ((↑k : Int) - (1 : Int))) 0) : Int))) (.leaf (.ret [.int .i64 (-1 : Int)] [])) (.leaf (.ret [.int .i64 1] []))))) (.side (inR .i64 ((↑k : Int) - (1 : Int) - (1 : Int))) (.leaf (.back 0 [(0, .sl (canon x).length 1 (natG .u32 (canon x))), (1, .sl (canon y).length 1 (natG .u32 (canon y))), (5, .int .i64 ((↑k : Int) - (1 : Int) - (1 : Int)))] [])))))) (.leaf (.ret [.int .i64 0] []))) (by kernel_rfl) ?_
   simp only [Tree.holds, ze, inR, lo, hi, Bool.cond_eq_ite]
   have e : ((k : Int) - 1).toNat = k - 1 := by omega
   rw [e]
   refine ⟨fun hk => ?_, fun hk => RetR.scal hq rfl ?_⟩
   ·have hk : 0 < k := by simp at hk; omega
    refine ⟨by omega, fun _ => ⟨by omega, fun _ => ⟨fun hne => ⟨by omega, fun _ => ⟨by omega, fun _ => ⟨fun hlt => RetR.scal hq rfl ?_, fun hlt => RetR.scal hq rfl ?_⟩⟩⟩, fun heq => ⟨by omega, fun _ => ?_⟩⟩⟩⟩
    ·have := yG (zj x) hlen (i := k - 1) (fun j hj => h2 j (by omega)) (by simpa using hlt)
     rw [zk, zk] at this
     simp [resV, cmp3, this]
    ·have hgt : (canon y).getD (k - 1) 0 < (canon x).getD (k - 1) 0 := by
      simp only [Bool.not_eq_true', decide_eq_false_iff_not] at hne hlt
      omega
     have := yG (zj y) hlen.symm (i := k - 1) (fun j hj => (h2 j (by omega)).symm) hgt
     rw [zk, zk] at this
     simp only [resV, cmp3]
     rw [if_neg (by omega), if_pos this]
    ·rw [if_pos trivial]
     refine ⟨⟨k - 1, by omega, fun j hj => ?_⟩, by show k - 1 < k; omega, by simp [S73, magS, natS, za]; omega, by simp, by kernel_rfl, Nat.zero_le _⟩
     rcases Nat.lt_or_ge j k with hj2 | hj2
     ·have : j = k - 1 := by omega
      subst this
      simp only [Bool.not_eq_false', decide_eq_true_eq] at heq
      omega
     ·exact h2 j hj2
   ·have hk : k = 0 := by simp at hk; omega
    subst hk
    have : canon x = canon y := by
     apply List.ext_getElem hlen
     intro j hj hj'
     have := h2 j (Nat.zero_le _)
     simpa [hj, hj'] using this
    have : x = y := by rw [← zk x, this, zk]
    subst this
    simp [resV, cmp3]
noncomputable def G1 : Nat → Option Ctr := fun f => if f = 97 then some (yR) else none
theorem uB : ∀ g c, G1 g = some c → zd Try.prog g c := okIf QV (zu)
def YV : Ctr := ctr2 true (fun x y => fits x ∧ y ≤ x) (fun x y d => d = x - y) (fun _ _ d => (magS d, []))
def S78 (x y : Nat) (o : List Nat) (c i : Nat) : KV := [(0, magS x), (1, magS y), (5, .osl 0 1 0 o.length), (6, .int .u32 (c : Int)), (13, magS x), (14, .int .i64 ((canon x).length : Int)), (15, .int .i64 (i : Int))]
structure I78 (x y : Nat) where
 o : List Nat
 c : Nat
 i : Nat
 len : o.length = i
 le : i ≤ (canon x).length
 dg : dig o
 c1 : c ≤ 1
 eq : val ((canon x).take i) + B ^ i * c = val o + val ((canon y).take i)
theorem Jf {x y : Nat} (h : x ≤ y) : (canon x).length ≤ (canon y).length := by
 rcases Nat.lt_or_ge (canon y).length (canon x).length with h1 | h1
 ·have := zX h1; omega
 ·exact h1
theorem zcd {x y o c i d c' : Nat} {l m : List Nat} (h : val (l.take i) + B ^ i * c = o + val (m.take i)) (he : l.getD i 0 + B * c' = d + m.getD i 0 + c) : val (l.take (i + 1)) + B ^ (i + 1) * c' = o + B ^ i * d + val (m.take (i + 1)) := by
 rw [zr, zr, Nat.pow_succ]
 have := congrArg (B ^ i * ·) he
 simp only [Nat.mul_add] at this
 rw [Nat.mul_assoc]
 omega
theorem Uq (l : List Nat) (d : Nat) : val (l ++ [d]) = val l + B ^ l.length * d := by rw [zG]; simp [val]
theorem Yo : zd Try.prog 100 YV := by
 refine uy (fn := Try.f100) (c := Try.f100.body.getD .skip) rfl rfl rfl fun x y hp O w0 Q hq => ?_
 replace hq := hq _ rfl
 obtain ⟨hx, hyx⟩ := hp
 simp only [fits] at hx hyx
 have hlen := Jf hyx
 refine zc.run hmix uB [0, 1, 5, 6, 13, 14, 15] 400 (T := .side ((0 : Int) ≤ 0 ∧ (0 : Int) ≤ (↑(canon x).length : Int) ∧ inR .i64 (↑(canon x).length : Int) ∧ Int.toNat (↑(canon x).length : Int) * 4 ≤ 140737488355328) (.leaf (.loop (Prod.fst (lps K100 0)) (Prod.snd (lps K100 0)) [(0, .sl (canon x).length 1 (natG .u32 (canon x))), (1, .sl (canon y).length 1 (natG .u32 (canon y))), (5, .osl 0 1 0 0), (6, .int .u32 0), (13, .sl (canon x).length 1 (natG .u32 (canon x))), (14, .int .i64 (↑(canon x).length : Int)), (15, .int .i64 0)] [.arr 0 1 (xT [.int .u32 0])]))) (by kernel_rfl) ?_
 simp only [Tree.holds, ze, inR, lo, hi]
 refine ⟨by omega, fun _ => ?_⟩
 refine zc.loop (ι := I78 x y) (fun s => S78 x y s.o s.c s.i) (fun s => [.arr s.o.length 1 (natG .u32 s.o)]) (fun s => (canon x).length - s.i) ⟨[], 0, 0, rfl, Nat.zero_le _, by simp [dig], by omega, by simp [val]⟩ 0 ?_ ?_ (by kernel_rfl)
 ·exact ⟨by simp [S78, magS, natS, za], by simp [eqG], by kernel_rfl, Nat.zero_le _⟩
 ·rintro ⟨o, c, i, ho, hle, hd, hc, he⟩
  subst ho
  have hB : B = 1000000000 := rfl
  refine zc.run hmix uB [0, 1, 5, 6, 13, 14, 15] 400 (T := .ite (decide ((↑o.length : Int) < (↑(canon x).length : Int))) (.side ((0 : Int) ≤ o.length ∧ (↑o.length : Int) < (↑(canon x).length : Int)) (.ite (decide ((↑o.length : Int) < (↑(canon y).length : Int))) (.side ((0 : Int) ≤ o.length ∧ (↑o.length : Int) < (↑(canon y).length : Int)) (.side (inR .u32 ((↑c : Int) + (↑(List.getD (canon y) (Int.toNat (↑o.length : Int)) 0) : Int))) (.ite (decide ((↑(List.getD (canon x) (Int.toNat (↑o.length : Int)) 0) : Int) < c + (↑(List.getD (canon y) (Int.toNat (↑o.length : Int)) 0) : Int))) (.side (inR .u32 ((↑(List.getD (canon x) (Int.toNat (↑o.length : Int)) 0) : Int) + (1000000000 : Int))) (.side (inR .u32 ((↑(List.getD (canon x) (Int.toNat (↑o.length : Int)) 0) : Int) + (1000000000 : Int) - ((↑c : Int) + (↑(List.getD (canon y) (Int.toNat (↑o.length : Int)) 0) : Int)))) (.side (0 = 0 ∧ o.length ≤ o.length ∧ (o.length + 1) * 4 ≤ 140737488355328) (.side (inR .i64 ((↑o.length : Int) + (1 : Int))) (.leaf (.back 0 [(0, .sl (canon x).length 1 (natG .u32 (canon x))), (1, .sl (canon y).length 1 (natG .u32 (canon y))), (5, .osl 0 1 0 (o.length + 1)), (6, .int .u32 1), (13, .sl (canon x).length 1 (natG .u32 (canon x))), (14, .int .i64 (↑(canon x).length : Int)), (15, .int .i64 ((↑o.length : Int) + (1 : Int)))] [.arr (o.length + 1) 1 (appG o.length (natG .u32 o) (zg (zf 1 [.int .u32 ((↑(List.getD (canon x) (Int.toNat (↑o.length : Int)) 0) : Int) + (1000000000 : Int) - ((↑c : Int) + (↑(List.getD (canon y) (Int.toNat (↑o.length : Int)) 0) : Int)))]) 0)), .arr 1 1 (zf 1 [.int .u32 ((↑(List.getD (canon x) (Int.toNat (↑o.length : Int)) 0) : Int) + (1000000000 : Int) - ((↑c : Int) + (↑(List.getD (canon y) (Int.toNat (↑o.length : Int)) 0) : Int)))])])))))) (.side (inR .u32 ((↑(List.getD (canon x) (Int.toNat (↑o.length : Int)) 0) : Int) - ((↑c : Int) + (↑(List.getD (canon y) (Int.toNat (↑o.length : Int)) 0) : Int)))) (.side (0 = 0 ∧ o.length ≤ o.length ∧ (o.length + 1) * 4 ≤ 140737488355328) (.side (inR .i64 ((↑o.length : Int) + (1 : Int))) (.leaf (.back 0 [(0, .sl (canon x).length 1 (natG .u32 (canon x))), (1, .sl (canon y).length 1 (natG .u32 (canon y))), (5, .osl 0 1 0 (o.length + 1)), (6, .int .u32 0), (13, .sl (canon x).length 1 (natG .u32 (canon x))), (14, .int .i64 (↑(canon x).length : Int)), (15, .int .i64 ((↑o.length : Int) + (1 : Int)))] [.arr (o.length + 1) 1 (appG o.length (natG .u32 o) (zg (zf 1 [.int .u32 ((↑(List.getD (canon x) (Int.toNat (↑o.length : Int)) 0) : Int) - ((↑c : Int) + (↑(List.getD (canon y) (Int.toNat (↑o.length : Int)) 0) : Int)))]) 0)), .arr 1 1 (zf 1 [.int .u32 ((↑(List.getD (canon x) (Int.toNat (↑o.length : Int)) 0) : Int) - ((↑c : Int) + (↑(List.getD (canon y) (Int.toNat (↑o.length : Int)) 0) : Int)))])])))))))) (.ite (decide ((↑(List.getD (canon x) (Int.toNat (↑o.length : Int)) 0) : Int) < c)) (.side (inR .u32 ((↑(List.getD (canon x) (Int.toNat (↑o.length : Int)) 0) : Int) + (1000000000 : Int))) (.side (inR .u32 ((↑(List.getD (canon x) (Int.toNat (↑o.length : Int)) 0) : Int) + (1000000000 : Int) - c)) (.side (0 = 0 ∧ o.length ≤ o.length ∧ (o.length + 1) * 4 ≤ 140737488355328) (.side (inR .i64 ((↑o.length : Int) + (1 : Int))) (.leaf (.back 0 [(0, .sl (canon x).length 1 (natG .u32 (canon x))), (1, .sl (canon y).length 1 (natG .u32 (canon y))), (5, .osl 0 1 0 (o.length + 1)), (6, .int .u32 1), (13, .sl (canon x).length 1 (natG .u32 (canon x))), (14, .int .i64 (↑(canon x).length : Int)), (15, .int .i64 ((↑o.length : Int) + (1 : Int)))] [.arr (o.length + 1) 1 (appG o.length (natG .u32 o) (zg (zf 1 [.int .u32 ((↑(List.getD (canon x) (Int.toNat (↑o.length : Int)) 0) : Int) + (1000000000 : Int) - c)]) 0)), .arr 1 1 (zf 1 [.int .u32 ((↑(List.getD (canon x) (Int.toNat (↑o.length : Int)) 0) : Int) + (1000000000 : Int) - c)])])))))) (.side (inR .u32 ((↑(List.getD (canon x) (Int.toNat (↑o.length : Int)) 0) : Int) - c)) (.side (0 = 0 ∧ o.length ≤ o.length ∧ (o.length + 1) * 4 ≤ 140737488355328) (.side (inR .i64 ((↑o.length : Int) + (1 : Int))) (.leaf (.back 0 [(0, .sl (canon x).length 1 (natG .u32 (canon x))), (1, .sl (canon y).length 1 (natG .u32 (canon y))), (5, .osl 0 1 0 (o.length + 1)), (6, .int .u32 0), (13, .sl (canon x).length 1 (natG .u32 (canon x))), (14, .int .i64 (↑(canon x).length : Int)), (15, .int .i64 ((↑o.length : Int) + (1 : Int)))] [.arr (o.length + 1) 1 (appG o.length (natG .u32 o) (zg (zf 1 [.int .u32 ((↑(List.getD (canon x) (Int.toNat (↑o.length : Int)) 0) : Int) - c)]) 0)), .arr 1 1 (zf 1 [.int .u32 ((↑(List.getD (canon x) (Int.toNat (↑o.length : Int)) 0) : Int) - c)])])))))))) (.ex (fun (u : List Nat) => u.length = o.length ∧ 0 + o.length ≤ o.length ∧ o.length < 4611686018427387904 ∧ eqG o.length 1 (natG .u32 o) (natG .u32 u) ∧ dig (List.take o.length (List.drop 0 u))) fun n => .all (fun (x : Nat) => x = val (List.take o.length (List.drop 0 n))) fun n => .leaf (.ret [.osl 0 1 0 (canon n).length] [.arr o.length 1 (natG .u32 o)]))) (by kernel_rfl) ?_
  simp only [Tree.holds, ze, inR, lo, hi, Int.toNat_natCast, yc]
  have ha := zK (zj x) o.length
  have hb := zK (zj y) o.length
  have hnext : ∀ d c' : Nat, d < B → c' ≤ 1 → o.length < (canon x).length → (canon x).getD o.length 0 + B * c' = d + (canon y).getD o.length 0 + c →
    ∃ s : I78 x y, s.o = o ++ [d] ∧ s.c = c' ∧ s.i = o.length + 1 := fun d c' h1 h2 h3 h4 =>
   ⟨⟨o ++ [d], c', o.length + 1, by simp, h3, j4.2 ⟨hd, by simp [dig, h1]⟩, h2, by rw [Uq]; exact zcd (x := x) (y := y) he h4⟩, rfl, rfl, rfl⟩
  refine ⟨fun hlt => ?_, fun hge => ?_⟩
  ·have hlt : o.length < (canon x).length := by simp at hlt; omega
   refine ⟨by omega, fun _ => ⟨fun hb2 => ⟨by simp at hb2; omega, fun _ => ⟨by omega, fun _ => ⟨fun hlt2 => ?_, fun hge2 => ?_⟩⟩⟩, fun hb2 => ⟨fun hlt2 => ?_, fun hge2 => ?_⟩⟩⟩
   ·simp only [decide_eq_true_eq] at hlt2
    refine ⟨by omega, fun _ => ⟨by omega, fun _ => ⟨⟨trivial, by omega, by omega⟩, fun _ => ⟨by omega, fun _ => ?_⟩⟩⟩⟩
    obtain ⟨s, h1, h2, h3⟩ := hnext ((canon x).getD o.length 0 + B - (c + (canon y).getD o.length 0)) 1 (by omega) (by omega) hlt (by omega)
    rw [if_pos trivial]
    refine ⟨s, by show _ - s.i < _; omega, by simp [S78, h1, h2, h3, magS, natS, za], by rw [h1]; exact kH (by omega), by kernel_rfl, Nat.zero_le _⟩
   ·simp only [decide_eq_false_iff_not] at hge2
    refine ⟨by omega, fun _ => ⟨⟨trivial, by omega, by omega⟩, fun _ => ⟨by omega, fun _ => ?_⟩⟩⟩
    obtain ⟨s, h1, h2, h3⟩ := hnext ((canon x).getD o.length 0 - (c + (canon y).getD o.length 0)) 0 (by omega) (by omega) hlt (by omega)
    rw [if_pos trivial]
    refine ⟨s, by show _ - s.i < _; omega, by simp [S78, h1, h2, h3, magS, natS, za], by rw [h1]; exact kH (by omega), by kernel_rfl, Nat.zero_le _⟩
   ·simp only [decide_eq_true_eq, decide_eq_false_iff_not] at hlt2 hb2
    have hb0 : (canon y).getD o.length 0 = 0 := by simp [List.getD, List.getElem?_eq_none (show (canon y).length ≤ o.length by omega)]
    refine ⟨by omega, fun _ => ⟨by omega, fun _ => ⟨⟨trivial, by omega, by omega⟩, fun _ => ⟨by omega, fun _ => ?_⟩⟩⟩⟩
    obtain ⟨s, h1, h2, h3⟩ := hnext ((canon x).getD o.length 0 + B - c) 1 (by omega) (by omega) hlt (by omega)
    rw [if_pos trivial]
    refine ⟨s, by show _ - s.i < _; omega, by simp [S78, h1, h2, h3, magS, natS, za], by rw [h1]; exact kH (by omega), by kernel_rfl, Nat.zero_le _⟩
   ·simp only [decide_eq_false_iff_not] at hge2 hb2
    have hb0 : (canon y).getD o.length 0 = 0 := by simp [List.getD, List.getElem?_eq_none (show (canon y).length ≤ o.length by omega)]
    refine ⟨by omega, fun _ => ⟨⟨trivial, by omega, by omega⟩, fun _ => ⟨by omega, fun _ => ?_⟩⟩⟩
    obtain ⟨s, h1, h2, h3⟩ := hnext ((canon x).getD o.length 0 - c) 0 (by omega) (by omega) hlt (by omega)
    rw [if_pos trivial]
    refine ⟨s, by show _ - s.i < _; omega, by simp [S78, h1, h2, h3, magS, natS, za], by rw [h1]; exact kH (by omega), by kernel_rfl, Nat.zero_le _⟩
  ·have hge : o.length = (canon x).length := by simp at hge; omega
   have hv : val o = x - y := by
    have h1 := zZ hd
    rw [hge, List.take_length, List.take_of_length_le hlen, zk, zk] at he
    have : c = 0 := by
     rcases Nat.lt_or_ge c 1 with h | h
     ·omega
     ·have : c = 1 := by omega
      subst this
      rw [hge] at h1
      omega
    subst this
    omega
   refine ⟨o, ⟨rfl, by omega, by omega, za _ _ _, by simpa using hd⟩, ⟨_, rfl⟩, ?_⟩
   intro X hX
   have hX : X = x - y := by simpa [hv] using hX
   subst hX
   have htr : qQ o = canon (x - y) := by rw [zY hd, hv]
   have htl : (canon (x - y)).length = tlen o := by rw [← htr, qQ, List.length_take]; have := qi o; omega
   rw [htl]
   refine ⟨[], rfl, by simp, by simp, fun _ => ⟨JD, by simp⟩, magS (x - y), [], zN ?_, by simp [expH], rfl, hq⟩
   simp only [resV, exp2, exp1, JB]
   exact Qk htr
end Go.Proofs.Try
end

/- The integers' magnitudes: short division, the guess of a digit, products. -/
section
set_option maxRecDepth 100000
open Go Go.Sx Go.Proofs Go.Nov
namespace Go.Proofs.Try
attribute [local simp] eqKV eqA eqA0 eqH eqB eqL eqL0
noncomputable def K96 : List Go.Sx.Item := [.code (Try.f96.body.getD .skip)]
noncomputable def K99 : List Go.Sx.Item := [.code (Try.f99.body.getD .skip)]
theorem Ku (m n : Nat) : Int.tdiv (m : Int) (n : Int) = ((m / n : Nat) : Int) := rfl
theorem VW (m n : Nat) : Int.tmod (m : Int) (n : Int) = ((m % n : Nat) : Int) := rfl
theorem yq (k : IntKind) (n : Nat) : eqG n 1 (xT [.int k 0]) (natG k (List.replicate n 0)) := by
 intro j o hj ho
 have : o = 0 := by omega
 subst this
 simp [xT, natG, hj]
theorem Wz {l : List Nat} {k : Nat} (hk : k < l.length) : l.drop k = l.getD k 0 :: l.drop (k + 1) := by
 rw [List.drop_eq_getElem_cons hk]
 simp [List.getD, hk]
def XM : Ctr := ctrP true (fun p : Nat × Nat => [magS p.1, .int .u32 (p.2 : Int)]) (fun p => fits p.1 ∧ 0 < p.2 ∧ p.2 < B) (fun p (r : Nat × Nat) => r = (p.1 / p.2, p.1 % p.2)) (fun _ r => (.tup [magS r.1, .int .u32 (r.2 : Int)], []))
def S74 (x d : Nat) (o : List Nat) (r k : Nat) : KV := [(0, magS x), (1, .int .u32 (d : Int)), (4, .osl 0 1 0 o.length), (6, .int .u64 (r : Int)), (7, .int .i64 ((k : Int) - 1))]
structure I74 (x d : Nat) where
 o : List Nat
 r : Nat
 k : Nat
 len : o.length = (canon x).length
 le : k ≤ (canon x).length
 rd : r < d
 dg : dig (o.drop k)
 eq : val ((canon x).drop k) = d * val (o.drop k) + r
theorem XV : zd Try.prog 96 XM := by
 refine zm (fn := Try.f96) (c := Try.f96.body.getD .skip) rfl rfl rfl fun p hp O w0 Q hq => ?_
 replace hq := hq _ rfl
 obtain ⟨x, d⟩ := p
 obtain ⟨hx, hd0, hdB⟩ := hp
 simp only [fits] at hx hd0 hdB hq
 have hB : B = 1000000000 := rfl
 refine zc.run hmix uB [0, 1, 4, 6, 7] 400 (T := .side ((0 : Int) ≤ (↑(canon x).length : Int) ∧ (↑(canon x).length : Int) ≤ (↑(canon x).length : Int) ∧ inR .i64 (↑(canon x).length : Int) ∧ Int.toNat (↑(canon x).length : Int) * 4 ≤ 140737488355328) (.side (inR .i64 ((↑(canon x).length : Int) - (1 : Int))) (.leaf (.loop (Prod.fst (lps K96 0)) (Prod.snd (lps K96 0)) [(0, .sl (canon x).length 1 (natG .u32 (canon x))), (1, .int .u32 d), (4, .osl 0 1 0 (Int.toNat (↑(canon x).length : Int))), (6, .int .u64 0), (7, .int .i64 ((↑(canon x).length : Int) - (1 : Int)))] [.arr (Int.toNat (↑(canon x).length : Int)) 1 (xT [.int .u32 0])])))) (by kernel_rfl) ?_
 simp only [Tree.holds, ze, inR, lo, hi]
 refine ⟨by omega, fun _ => ⟨by omega, fun _ => ?_⟩⟩
 refine zc.loop (ι := I74 x d) (fun s => S74 x d s.o s.r s.k) (fun s => [.arr s.o.length 1 (natG .u32 s.o)]) (fun s => s.k) ⟨List.replicate (canon x).length 0, 0, (canon x).length, by simp, Nat.le_refl _, hd0, by simp [dig], by simp [val]⟩ 0 ?_ ?_ (by kernel_rfl)
 ·exact ⟨by simp [S74, magS, natS, za], by simp [yq], by kernel_rfl, Nat.zero_le _⟩
 ·rintro ⟨o, r, k, hlen, hle, hr, hdg, he⟩
  refine zc.run hmix uB [0, 1, 4, 6, 7] 400 (T := .ite (decide ((0 : Int) ≤ k - (1 : Int))) (.side (inR .u64 ((↑r : Int) * (1000000000 : Int))) (.side ((0 : Int) ≤ k - (1 : Int) ∧ (↑k : Int) - (1 : Int) < (↑(canon x).length : Int)) (.side (inR .u64 (↑(List.getD (canon x) (Int.toNat ((↑k : Int) - (1 : Int))) 0) : Int)) (.side (inR .u64 ((↑r : Int) * (1000000000 : Int) + (↑(List.getD (canon x) (Int.toNat ((↑k : Int) - (1 : Int))) 0) : Int))) (.side (inR .u64 (↑d : Int)) (.side ((↑d : Int) ≠ 0 ∧ inR .u64 (Int.tdiv ((↑r : Int) * (1000000000 : Int) + (↑(List.getD (canon x) (Int.toNat ((↑k : Int) - (1 : Int))) 0) : Int)) (↑d : Int))) (.side (inR .u32 (Int.tdiv ((↑r : Int) * (1000000000 : Int) + (↑(List.getD (canon x) (Int.toNat ((↑k : Int) - (1 : Int))) 0) : Int)) (↑d : Int))) (.side (inR .u64 (↑d : Int)) (.side ((↑d : Int) ≠ 0) (.side ((0 : Int) ≤ k - (1 : Int) ∧ (↑k : Int) - (1 : Int) < o.length) (.side (inR .i64 ((↑k : Int) - (1 : Int) - (1 : Int))) (.leaf (.back 0 [(0, .sl (canon x).length 1 (natG .u32 (canon x))), (1, .int .u32 d), (4, .osl 0 1 0 o.length), (6, .int .u64 (Int.tmod ((↑r : Int) * (1000000000 : Int) + (↑(List.getD (canon x) (Int.toNat ((↑k : Int) - (1 : Int))) 0) : Int)) (↑d : Int))), (7, .int .i64 ((↑k : Int) - (1 : Int) - (1 : Int)))] [.arr o.length 1 (updG (natG .u32 o) (0 + Int.toNat ((↑k : Int) - (1 : Int))) 0 [.int .u32 (Int.tdiv ((↑r : Int) * (1000000000 : Int) + (↑(List.getD (canon x) (Int.toNat ((↑k : Int) - (1 : Int))) 0) : Int)) (↑d : Int))])]))))))))))))) (.ex (fun (u : List Nat) => u.length = o.length ∧ 0 + o.length ≤ o.length ∧ o.length < 4611686018427387904 ∧ eqG o.length 1 (natG .u32 o) (natG .u32 u) ∧ dig (List.take o.length (List.drop 0 u))) fun n => .all (fun (x : Nat) => x = val (List.take o.length (List.drop 0 n))) fun n => .side (inR .u32 (↑r : Int)) (.leaf (.ret [.osl 0 1 0 (canon n).length, .int .u32 r] [.arr o.length 1 (natG .u32 o)])))) (by kernel_rfl) ?_
  have e : ((k : Int) - 1).toNat = k - 1 := by omega
  have ha := zK (zj x) (k - 1)
  have ev : ((r : Int) * 1000000000 + ((canon x).getD (k - 1) 0 : Nat)) = ((r * B + (canon x).getD (k - 1) 0 : Nat) : Int) := by simp
  simp only [Tree.holds, ze, inR, lo, hi, e, ev, Ku, VW, yc]
  generalize hv : r * B + (canon x).getD (k - 1) 0 = v
  have hvd : v < d * B := by
   have : (r + 1) * B ≤ d * B := Nat.mul_le_mul_right _ hr
   rw [Nat.add_mul] at this
   omega
  have hq1 : v / d < B := Nat.div_lt_of_lt_mul hvd
  have hr1 : v % d < d := Nat.mod_lt _ hd0
  have hdm := Nat.div_add_mod v d
  generalize v / d = q at hq1 hdm ⊢
  generalize v % d = rr at hr1 hdm ⊢
  have hdB2 : d * B < B * B := Nat.mul_lt_mul_of_pos_right hdB (by decide)
  rw [hB] at hdB2
  refine ⟨fun hk => ?_, fun hk => ?_⟩
  ·have hk : 0 < k := by simp at hk; omega
   refine ⟨by omega, fun _ => ⟨by omega, fun _ => ⟨by omega, fun _ => ⟨by omega, fun _ => ⟨by omega, fun _ => ⟨⟨by omega, by omega, by omega⟩, fun _ => ⟨by omega, fun _ => ⟨by omega, fun _ => ⟨by omega, fun _ => ⟨by omega, fun _ => ⟨by omega, fun _ => ?_⟩⟩⟩⟩⟩⟩⟩⟩⟩⟩⟩
   rw [if_pos trivial]
   have hkl : k - 1 < o.length := by omega
   have hdr : (o.set (k - 1) (q)).drop (k - 1) = (q) :: o.drop k := by
    rw [Wz (by simpa using hkl)]
    rw [show k - 1 + 1 = k by omega, List.drop_set_of_lt (by omega)]
    simp [hkl]
   refine ⟨⟨o.set (k - 1) (q), rr, k - 1, by simpa using hlen, by omega, hr1, by rw [hdr]; exact qp.2 ⟨hq1, hdg⟩, ?_⟩, by show k - 1 < k; omega, by simp [S74, magS, natS, za]; omega, ?_, by kernel_rfl, Nat.zero_le _⟩
   ·rw [hdr, Wz (by omega), show k - 1 + 1 = k by omega]
    simp only [val, he]
    rw [Nat.mul_add, Nat.mul_add, ← Nat.mul_assoc, ← Nat.mul_assoc, Nat.mul_comm d B]
    have h5 : B * r = r * B := Nat.mul_comm _ _
    omega
   ·refine ⟨⟨by simp, rfl, ?_⟩, trivial⟩
    have := wO (k := .u32) (l := o) (v := ((q : Nat) : Int)) (i := k - 1) (by omega) hkl
    simpa using this
  ·have hk : k = 0 := by simp at hk; omega
   subst hk
   simp only [List.drop_zero] at he hdg
   rw [zk] at he
   have hqv : val o = x / d := by
    rw [he, Nat.mul_add_div hd0, Nat.div_eq_of_lt hr, Nat.add_zero]
   have hrv : r = x % d := by rw [he, Nat.mul_add_mod, Nat.mod_eq_of_lt hr]
   have htr : qQ o = canon (x / d) := by rw [zY hdg, hqv]
   refine ⟨o, ⟨rfl, by omega, by omega, za _ _ _, by simpa using hdg⟩, ⟨_, rfl⟩, ?_⟩
   intro X hX
   have hX : X = x / d := by simpa [hqv] using hX
   subst hX
   have htl : (canon (x / d)).length = tlen o := by rw [← htr, qQ, List.length_take]; have := qi o; omega
   rw [htl]
   refine ⟨by omega, fun _ => ?_⟩
   refine ⟨[], rfl, by simp, by simp, fun _ => ⟨?_, by simp⟩, _, [], zN ?_, by simp [expH], rfl, hq⟩
   ·simp only [resV, new2]
    intro a ha
    rcases List.mem_cons.1 ha with rfl | ha
    ·exact JD
    ·simp only [List.mem_singleton] at ha; subst ha; rfl
   ·simp only [resV, exp2, List.map_cons, List.map_nil, exp1, JB, eqA2, eqL1]
    exact ⟨Qk htr, by simp [eqA, exp0, ren0, hrv], trivial⟩
structure D5 where
 t : Nat
 u : Nat
 v : Nat
 y : Nat
 z : Nat
def Ul : Ctr := ctrP true (fun p : D5 => [.int .u64 (p.t : Int), .int .u64 (p.u : Int), .int .u64 (p.v : Int), .int .u64 (p.y : Int), .int .u64 (p.z : Int)])
 (fun p => p.t ≤ p.y ∧ p.u < B ∧ p.v < B ∧ p.y < B ∧ p.z < B ∧ B ≤ 2 * p.y) (fun p n => n = qC p.v p.y p.z 2 ((p.t * B + p.u) / p.y) ((p.t * B + p.u) % p.y)) (fun _ n => (.int .u64 (n : Int), []))
def S77 (v y z q r : Nat) : KV := [(2, .int .u64 (v : Int)), (3, .int .u64 (y : Int)), (4, .int .u64 (z : Int)), (12, .int .u64 (q : Int)), (13, .int .u64 (r : Int))]
structure I77 (v y z R : Nat) where
 q : Nat
 r : Nat
 n : Nat
 rB : r < B
 qB : q ≤ B + 1
 nB : B ≤ r + n * y
 eq : qC v y z n q r = R
theorem Yx : zd Try.prog 99 Ul := by
 refine zm (fn := Try.f99) (c := Try.f99.body.getD .skip) rfl rfl rfl fun p hp O w0 Q hq => ?_
 replace hq := hq _ rfl
 obtain ⟨t, u, v, y, z⟩ := p
 simp only at hq
 obtain ⟨h1, h2, h3, h4, h5, h6⟩ := hp
 simp only at h1 h2 h3 h4 h5 h6
 have hB : B = 1000000000 := rfl
 refine zc.run hmix z7 [2, 3, 4, 12, 13] 400 (T := .side (inR .u64 ((↑t : Int) * (1000000000 : Int))) (.side (inR .u64 ((↑t : Int) * (1000000000 : Int) + u)) (.side ((↑y : Int) ≠ 0 ∧ inR .u64 (Int.tdiv ((↑t : Int) * (1000000000 : Int) + u) (↑y : Int))) (.side ((↑y : Int) ≠ 0) (.leaf (.loop (Prod.fst (lps K99 0)) (Prod.snd (lps K99 0)) [(2, .int .u64 v), (3, .int .u64 y), (4, .int .u64 z), (12, .int .u64 (Int.tdiv ((↑t : Int) * (1000000000 : Int) + u) (↑y : Int))), (13, .int .u64 (Int.tmod ((↑t : Int) * (1000000000 : Int) + u) (↑y : Int)))] [])))))) (by kernel_rfl) ?_
 have ev : ((t : Int) * 1000000000 + (u : Int)) = ((t * B + u : Nat) : Int) := by simp
 simp only [Tree.holds, ze, inR, lo, hi, ev, Ku, VW]
 have hy : 0 < y := by omega
 have hr : (t * B + u) % y < y := Nat.mod_lt _ hy
 have hq1 : (t * B + u) / y ≤ B + 1 := by
  have h7 : t * B ≤ y * B := Nat.mul_le_mul_right _ h1
  have : (t * B + u) / y < B + 2 := by
   apply Nat.div_lt_of_lt_mul
   rw [Nat.mul_add]
   omega
  omega
 have hst : t * 1000000000 ≤ 1000000000 * 1000000000 := Nat.mul_le_mul_right _ (by omega)
 generalize hR : qC v y z 2 ((t * B + u) / y) ((t * B + u) % y) = R at hq
 generalize hqq : (t * B + u) / y = q at hq1 hR ⊢
 generalize hrr : (t * B + u) % y = r at hr hR ⊢
 refine ⟨by omega, fun _ => ⟨by omega, fun _ => ⟨⟨by omega, by omega, by omega⟩, fun _ => ⟨by omega, fun _ => ?_⟩⟩⟩⟩
 refine zc.loop (ι := I77 v y z R) (fun s => S77 v y z s.q s.r) (fun _ => []) (fun s => s.n) ⟨q, r, 2, by omega, hq1, by omega, hR⟩ 0 ?_ ?_ (by kernel_rfl)
 ·exact ⟨by simp [S77], by simp, by kernel_rfl, Nat.zero_le _⟩
 ·rintro ⟨q, r, n, hrB, hqB, hnB, hR⟩
  refine zc.run hmix z7 [2, 3, 4, 12, 13] 400 (T := .side (decide ((1000000000 : Int) ≤ q) = false → inR .u64 ((↑q : Int) * z)) (.side (decide ((1000000000 : Int) ≤ q) = false → inR .u64 ((↑r : Int) * (1000000000 : Int))) (.side (decide ((1000000000 : Int) ≤ q) = false → inR .u64 ((↑r : Int) * (1000000000 : Int) + v)) (.ite (bif decide ((1000000000 : Int) ≤ q) then true else decide ((↑r : Int) * (1000000000 : Int) + v < (↑q : Int) * z)) (.side (inR .u64 ((↑q : Int) - (1 : Int))) (.side (inR .u64 ((↑r : Int) + y)) (.ite (decide ((1000000000 : Int) ≤ r + (↑y : Int))) (.leaf (.ret [.int .u64 ((↑q : Int) - (1 : Int))] [])) (.leaf (.back 0 [(2, .int .u64 v), (3, .int .u64 y), (4, .int .u64 z), (12, .int .u64 ((↑q : Int) - (1 : Int))), (13, .int .u64 ((↑r : Int) + y))] []))))) (.leaf (.ret [.int .u64 q] [])))))) (by kernel_rfl) ?_
  simp only [Tree.holds, ze, inR, lo, hi, Bool.cond_eq_ite]
  have hqz : q * z ≤ 1000000001 * 1000000000 := Nat.mul_le_mul (by omega) (by omega)
  have eqz : ((q : Int) * (z : Int)) = ((q * z : Nat) : Int) := by simp
  rw [eqz]
  have hrb : r * B = 1000000000 * r := Nat.mul_comm _ _
  generalize hp : q * z = p at hqz ⊢
  refine ⟨fun _ => by omega, fun _ => ⟨fun _ => by omega, fun _ => ⟨fun _ => by omega, fun _ => ⟨fun hc => ?_, fun hc => ?_⟩⟩⟩⟩
  ·have hcond : B ≤ q ∨ r * B + v < q * z := by
    rw [hp]
    split at hc
    ·rename_i h; simp only [decide_eq_true_eq] at h; left; omega
    ·simp only [decide_eq_true_eq] at hc; right; omega
   have hq0 : 0 < q := by
    rcases Nat.eq_zero_or_pos q with rfl | h
    ·simp at hcond
    ·exact h
   cases n with
   | zero => omega
   | succ n =>
    simp only [qC, if_pos hcond] at hR
    refine ⟨by omega, fun _ => ⟨by omega, fun _ => ⟨fun hb => ?_, fun hb => ?_⟩⟩⟩
    ·rw [if_pos (by simp at hb; omega)] at hR
     refine RetR.scal hq rfl ?_
     simp only [resV]; congr 1; omega
    ·rw [if_neg (by simp at hb; omega)] at hR
     rw [if_pos trivial]
     refine ⟨⟨q - 1, r + y, n, by simp at hb; omega, by omega, by rw [Nat.add_mul] at hnB; omega, hR⟩, by show n < n + 1; omega, by simp [S77]; omega, by simp, by kernel_rfl, Nat.zero_le _⟩
  ·have hcond : ¬ (B ≤ q ∨ r * B + v < q * z) := by
    rw [hp]
    split at hc
    ·cases hc
    ·rename_i h; simp only [decide_eq_true_eq, decide_eq_false_iff_not] at h hc; omega
   refine RetR.scal hq rfl ?_
   have : qC v y z n q r = q := by
    cases n with
    | zero => rfl
    | succ n => simp only [qC, if_neg hcond]
   simp only [resV]; congr 1; omega
end Go.Proofs.Try
end

/- The integers' magnitudes: products. -/
section
set_option maxRecDepth 100000
open Go Go.Sx Go.Proofs Go.Nov
namespace Go.Proofs.Try
attribute [local simp] eqKV eqA eqA0 eqH eqB eqL eqL0
noncomputable def K98 : List Go.Sx.Item := [.code (Try.f98.body.getD .skip)]
theorem heap_set {k : IntKind} {o : List Nat} {v : Int} {i d i' : Nat} (hv : v = d) (hi : i < o.length) (hi' : i' = i) : eqH [.arr o.length 1 (updG (natG k o) i' 0 [.int k v])] [.arr (o.set i d).length 1 (natG k (o.set i d))] := by
 subst hv
 subst hi'
 refine ⟨⟨by simp, rfl, ?_⟩, by simp [eqH]⟩
 have := wO (k := k) (l := o) (v := (d : Int)) (by omega) hi
 simpa using this
def Uv : Ctr := ctr2 true (fun x y => fits x ∧ fits y)
 (fun x y p => p = x * y) (fun x y p => (.osl 0 1 0 (canon p).length, [.arr ((canon x).length + (canon y).length) 1 (natG .u32 (padN ((canon x).length + (canon y).length) p))]))
def S76 (x y i : Nat) (o : List Nat) : KV := [(0, magS x), (1, magS y), (5, .osl 0 1 0 o.length), (6, .undef), (7, .undef), (8, .undef), (18, magS x), (19, .int .i64 ((canon x).length : Nat)), (20, .int .i64 (i : Int)), (25, .undef), (26, .undef), (27, .undef)]
def S76b (x y i j c : Nat) (o : List Nat) : KV := [(0, magS x), (1, magS y), (5, .osl 0 1 0 o.length), (6, .int .i64 (i : Int)), (7, .int .u32 ((canon x).getD i 0 : Nat)), (8, .int .u64 (c : Int)), (18, magS x), (19, .int .i64 ((canon x).length : Nat)), (20, .int .i64 (i : Int)), (25, magS y), (26, .int .i64 ((canon y).length : Nat)), (27, .int .i64 (j : Int))]
structure I76 (x y : Nat) where
 o : List Nat
 i : Nat
 len : o.length = (canon x).length + (canon y).length
 le : i ≤ (canon x).length
 dg : dig o
 eq : val o = val ((canon x).take i) * y
structure I76b (x y i V : Nat) where
 o : List Nat
 c : Nat
 j : Nat
 len : o.length = (canon x).length + (canon y).length
 le : j ≤ (canon y).length
 dg : dig o
 cB : c < B
 z : ∀ p, i + (canon y).length ≤ p → o.getD p 0 = 0
 eq : val o + B ^ i * B ^ j * c = V + B ^ i * (canon x).getD i 0 * val ((canon y).take j)
theorem WL {o' Pi Pj op d v a b' c c' V vt vo : Nat} (h1 : o' + Pi*Pj * op = vo + Pi*Pj * d) (h2 : vo + Pi*Pj * c = V + Pi * a * vt) (h3 : B * c' + d = v) (h4 : v = a * b' + op + c) : o' + Pi*(Pj*B) * c' = V + Pi * a * (vt + Pj * b') := by grind
theorem YC : zd Try.prog 98 Uv := by
 refine uy (fn := Try.f98) (c := Try.f98.body.getD .skip) rfl rfl rfl fun x y hp O w0 Q hq => ?_
 replace hq := hq _ rfl
 obtain ⟨hx, hy⟩ := hp
 simp only [fits] at hx hy hq
 have hB : B = 1000000000 := rfl
 refine zc.run hmix uB [0, 1, 5, 6, 7, 8, 18, 19, 20, 25, 26, 27] 400 (T := .side (inR .i64 ((↑(canon x).length : Int) + (↑(canon y).length : Int))) (.side ((0 : Int) ≤ (↑(canon x).length : Int) + (↑(canon y).length : Int) ∧ (↑(canon x).length : Int) + (↑(canon y).length : Int) ≤ (↑(canon x).length : Int) + (↑(canon y).length : Int) ∧ inR .i64 ((↑(canon x).length : Int) + (↑(canon y).length : Int)) ∧ Int.toNat ((↑(canon x).length : Int) + (↑(canon y).length : Int)) * 4 ≤ 140737488355328) (.leaf (.loop (Prod.fst (lps K98 0)) (Prod.snd (lps K98 0)) [(0, .sl (canon x).length 1 (natG .u32 (canon x))), (1, .sl (canon y).length 1 (natG .u32 (canon y))), (5, .osl 0 1 0 (Int.toNat ((↑(canon x).length : Int) + (↑(canon y).length : Int)))), (6, .undef), (7, .undef), (8, .undef), (18, .sl (canon x).length 1 (natG .u32 (canon x))), (19, .int .i64 (↑(canon x).length : Int)), (20, .int .i64 0), (25, .undef), (26, .undef), (27, .undef)] [.arr (Int.toNat ((↑(canon x).length : Int) + (↑(canon y).length : Int))) 1 (xT [.int .u32 0])])))) (by kernel_rfl) ?_
 simp only [Tree.holds, ze, inR, lo, hi]
 have esum : ((canon x).length : Int) + ((canon y).length : Int) = (((canon x).length + (canon y).length : Nat) : Int) := by omega
 simp only [esum, Int.toNat_natCast]
 refine ⟨by omega, fun _ => ⟨by omega, fun _ => ?_⟩⟩
 refine zc.loop (ι := I76 x y) (fun s => S76 x y s.i s.o) (fun s => [.arr s.o.length 1 (natG .u32 s.o)]) (fun s => (canon x).length - s.i) ⟨List.replicate ((canon x).length + (canon y).length) 0, 0, by simp, Nat.zero_le _, q6 _, by simp [qV, val]⟩ 0 ?_ ?_ (by kernel_rfl)
 ·exact ⟨by simp [S76, magS, natS, za], by simp [yq], by kernel_rfl, Nat.zero_le _⟩
 ·rintro ⟨o, i, hlen, hle, hd, he⟩
  refine zc.run hmix uB [0, 1, 5, 6, 7, 8, 18, 19, 20, 25, 26, 27] 400 (T := .ite (decide ((↑i : Int) < (↑(canon x).length : Int))) (.side ((0 : Int) ≤ i ∧ (↑i : Int) < (↑(canon x).length : Int)) (.leaf (.loop (Prod.fst (lps (inside K98 0) 0)) (Prod.snd (lps (inside K98 0) 0)) [(0, .sl (canon x).length 1 (natG .u32 (canon x))), (1, .sl (canon y).length 1 (natG .u32 (canon y))), (5, .osl 0 1 0 o.length), (6, .int .i64 i), (7, .int .u32 (↑(List.getD (canon x) (Int.toNat (↑i : Int)) 0) : Int)), (8, .int .u64 0), (18, .sl (canon x).length 1 (natG .u32 (canon x))), (19, .int .i64 (↑(canon x).length : Int)), (20, .int .i64 i), (25, .sl (canon y).length 1 (natG .u32 (canon y))), (26, .int .i64 (↑(canon y).length : Int)), (27, .int .i64 0)] [.arr o.length 1 (natG .u32 o)]))) (.ex (fun (u : List Nat) => u.length = o.length ∧ 0 + o.length ≤ o.length ∧ o.length < 4611686018427387904 ∧ eqG o.length 1 (natG .u32 o) (natG .u32 u) ∧ dig (List.take o.length (List.drop 0 u))) fun n => .all (fun (x : Nat) => x = val (List.take o.length (List.drop 0 n))) fun n => .leaf (.ret [.osl 0 1 0 (canon n).length] [.arr o.length 1 (natG .u32 o)]))) (by kernel_rfl) ?_
  simp only [Tree.holds, ze, inR, lo, hi, Int.toNat_natCast, yc]
  have hz : ∀ p, i + (canon y).length ≤ p → o.getD p 0 = 0 := by
   intro p hp
   refine ZB (n := i + (canon y).length) ?_ hp
   rw [he, Nat.pow_add]
   have h1 := zZ (qT (zj x) i)
   have h2 := zZ (zj y)
   rw [zk] at h2
   have h3 : B ^ ((canon x).take i).length = B ^ i := by rw [List.length_take, Nat.min_eq_left hle]
   rw [h3] at h1
   exact Nat.mul_lt_mul_of_lt_of_le h1 (Nat.le_of_lt h2) (Nat.pow_pos (by decide))
  refine ⟨fun hlt => ⟨by simp at hlt; omega, fun _ => ?_⟩, fun hge => ?_⟩
  ·have hlt : i < (canon x).length := by simp at hlt; omega
   refine zc.loop (ι := I76b x y i (val o)) (fun s => S76b x y i s.j s.c s.o) (fun s => [.arr s.o.length 1 (natG .u32 s.o)]) (fun s => (canon y).length - s.j) ⟨o, 0, 0, hlen, Nat.zero_le _, hd, by decide, hz, by simp [val]⟩ 1 ?_ ?_ (by kernel_rfl)
   ·exact ⟨by simp [S76b, magS, natS, za], by simp [za], by kernel_rfl, Nat.zero_le _⟩
   ·rintro ⟨o2, c, j, hlen2, hle2, hd2, hcB, hz2, he2⟩
    refine zc.run hmix uB [0, 1, 5, 6, 7, 8, 18, 19, 20, 25, 26, 27] 400 (T := .ite (decide ((↑j : Int) < (↑(canon y).length : Int))) (.side ((0 : Int) ≤ j ∧ (↑j : Int) < (↑(canon y).length : Int)) (.side (inR .u64 (↑(List.getD (canon x) i 0) : Int)) (.side (inR .u64 (↑(List.getD (canon y) (Int.toNat (↑j : Int)) 0) : Int)) (.side (inR .u64 ((↑(List.getD (canon x) i 0) : Int) * (↑(List.getD (canon y) (Int.toNat (↑j : Int)) 0) : Int))) (.side (inR .i64 ((↑i : Int) + j)) (.side ((0 : Int) ≤ i + (↑j : Int) ∧ (↑i : Int) + j < (↑o2.length : Int)) (.side (inR .u64 (↑(List.getD o2 (0 + Int.toNat ((↑i : Int) + j)) 0) : Int)) (.side (inR .u64 ((↑(List.getD (canon x) i 0) : Int) * (↑(List.getD (canon y) (Int.toNat (↑j : Int)) 0) : Int) + (↑(List.getD o2 (0 + Int.toNat ((↑i : Int) + j)) 0) : Int))) (.side (inR .u64 ((↑(List.getD (canon x) i 0) : Int) * (↑(List.getD (canon y) (Int.toNat (↑j : Int)) 0) : Int) + (↑(List.getD o2 (0 + Int.toNat ((↑i : Int) + j)) 0) : Int) + c)) (.side (inR .i64 ((↑i : Int) + j)) (.side ((1000000000 : Int) ≠ 0) (.side (inR .u32 (Int.tmod ((↑(List.getD (canon x) i 0) : Int) * (↑(List.getD (canon y) (Int.toNat (↑j : Int)) 0) : Int) + (↑(List.getD o2 (0 + Int.toNat ((↑i : Int) + j)) 0) : Int) + c) (1000000000 : Int))) (.side ((1000000000 : Int) ≠ 0 ∧ inR .u64 (Int.tdiv ((↑(List.getD (canon x) i 0) : Int) * (↑(List.getD (canon y) (Int.toNat (↑j : Int)) 0) : Int) + (↑(List.getD o2 (0 + Int.toNat ((↑i : Int) + j)) 0) : Int) + c) (1000000000 : Int))) (.side ((0 : Int) ≤ i + (↑j : Int) ∧ (↑i : Int) + j < (↑o2.length : Int)) (.side (inR .i64 ((↑j : Int) + (1 : Int))) (.leaf (.back 1 [(0, .sl (canon x).length 1 (natG .u32 (canon x))), (1, .sl (canon y).length 1 (natG .u32 (canon y))), (5, .osl 0 1 0 o2.length), (6, .int .i64 i), (7, .int .u32 (↑(List.getD (canon x) i 0) : Int)), (8, .int .u64 (Int.tdiv ((↑(List.getD (canon x) i 0) : Int) * (↑(List.getD (canon y) (Int.toNat (↑j : Int)) 0) : Int) + (↑(List.getD o2 (0 + Int.toNat ((↑i : Int) + j)) 0) : Int) + c) (1000000000 : Int))), (18, .sl (canon x).length 1 (natG .u32 (canon x))), (19, .int .i64 (↑(canon x).length : Int)), (20, .int .i64 i), (25, .sl (canon y).length 1 (natG .u32 (canon y))), (26, .int .i64 (↑(canon y).length : Int)), (27, .int .i64 ((↑j : Int) + (1 : Int)))] [.arr o2.length 1 (updG (natG .u32 o2) (0 + Int.toNat ((↑i : Int) + j)) 0 [.int .u32 (Int.tmod ((↑(List.getD (canon x) i 0) : Int) * (↑(List.getD (canon y) (Int.toNat (↑j : Int)) 0) : Int) + (↑(List.getD o2 (0 + Int.toNat ((↑i : Int) + j)) 0) : Int) + c) (1000000000 : Int))])]))))))))))))))))) (.side (inR .i64 ((↑i : Int) + (↑(canon y).length : Int))) (.side ((0 : Int) ≤ i + (↑(canon y).length : Int) ∧ (↑i : Int) + (↑(canon y).length : Int) < o2.length) (.side (inR .u32 (↑c : Int)) (.side (inR .u32 ((↑(List.getD o2 (0 + Int.toNat ((↑i : Int) + (↑(canon y).length : Int))) 0) : Int) + c)) (.side ((0 : Int) ≤ i + (↑(canon y).length : Int) ∧ (↑i : Int) + (↑(canon y).length : Int) < o2.length) (.side (inR .i64 ((↑i : Int) + (1 : Int))) (.leaf (.back 0 [(0, .sl (canon x).length 1 (natG .u32 (canon x))), (1, .sl (canon y).length 1 (natG .u32 (canon y))), (5, .osl 0 1 0 o2.length), (6, .int .i64 i), (7, .int .u32 (↑(List.getD (canon x) i 0) : Int)), (8, .int .u64 c), (18, .sl (canon x).length 1 (natG .u32 (canon x))), (19, .int .i64 (↑(canon x).length : Int)), (20, .int .i64 ((↑i : Int) + (1 : Int))), (25, .sl (canon y).length 1 (natG .u32 (canon y))), (26, .int .i64 (↑(canon y).length : Int)), (27, .int .i64 j)] [.arr o2.length 1 (updG (natG .u32 o2) (0 + Int.toNat ((↑i : Int) + (↑(canon y).length : Int))) 0 [.int .u32 ((↑(List.getD o2 (0 + Int.toNat ((↑i : Int) + (↑(canon y).length : Int))) 0) : Int) + c)])]))))))))) (by kernel_rfl) ?_
    have ha := zK (zj x) i
    have hb := zK (zj y) j
    have ho := zK hd2 (i + j)
    have e1 : ((i : Int) + (j : Int)) = ((i + j : Nat) : Int) := by omega
    have e2 : ((i : Int) + ((canon y).length : Int)) = ((i + (canon y).length : Nat) : Int) := by omega
    simp only [Tree.holds, ze, inR, lo, hi, e1, e2, Int.toNat_natCast, Nat.zero_add]
    have e3 : (((canon x).getD i 0 : Nat) : Int) * (((canon y).getD j 0 : Nat) : Int) = (((canon x).getD i 0 * (canon y).getD j 0 : Nat) : Int) := by simp
    have hab : (canon x).getD i 0 * (canon y).getD j 0 ≤ 999999999 * 999999999 := Nat.mul_le_mul (by omega) (by omega)
    generalize hv : (canon x).getD i 0 * (canon y).getD j 0 + o2.getD (i + j) 0 + c = v
    have e4 : (((canon x).getD i 0 : Nat) : Int) * (((canon y).getD j 0 : Nat) : Int) + ((o2.getD (i + j) 0 : Nat) : Int) + (c : Int) = (v : Int) := by rw [e3, ← hv]; omega
    have e5 : (1000000000 : Int) = ((B : Nat) : Int) := rfl
    have hvB : v < 1000000000 * 1000000000 := by omega
    have hdm := Nat.div_add_mod v B
    have hmod : v % B < B := Nat.mod_lt _ (by decide)
    have hdiv : v / B < B := Nat.div_lt_of_lt_mul hvB
    rw [e4, e5, Ku, VW]
    generalize v / B = c' at hdm hdiv ⊢
    generalize v % B = d at hdm hmod ⊢
    rw [e3]
    generalize hab2 : (canon x).getD i 0 * (canon y).getD j 0 = ab at hab hv ⊢
    refine ⟨fun hj => ?_, fun hj => ?_⟩
    ·have hj : j < (canon y).length := by simp at hj; omega
     have hp : i + j < o2.length := by omega
     refine ⟨by omega, fun _ => ⟨by omega, fun _ => ⟨by omega, fun _ => ⟨by omega, fun _ => ⟨by omega, fun _ => ⟨by omega, fun _ => ⟨by omega, fun _ => ⟨by omega, fun _ => ⟨by omega, fun _ => ⟨by omega, fun _ => ⟨by omega, fun _ => ⟨by omega, fun _ => ⟨by omega, fun _ => ⟨by omega, fun _ => ⟨by omega, fun _ => ?_⟩⟩⟩⟩⟩⟩⟩⟩⟩⟩⟩⟩⟩⟩⟩
     rw [if_pos trivial]
     have hs := yb o2 (i + j) d hp
     refine ⟨⟨o2.set (i + j) d, c', j + 1, by simpa using hlen2, by omega, uj hd2 _ hmod, hdiv, fun p hp2 => ?_, ?_⟩, by show _ - (j + 1) < _ - j; omega, by simp [S76b, magS, natS, za], heap_set rfl hp rfl, by kernel_rfl, Nat.zero_le _⟩
     ·have := hz2 p hp2
      simp only [List.getD] at this ⊢
      rw [List.getElem?_set_ne (by omega)]; exact this
     ·rw [Nat.pow_add] at hs
      rw [Nat.pow_succ, zr]
      exact WL hs he2 hdm (by rw [hab2]; omega)
    ·have hj : j = (canon y).length := by simp at hj; omega
     subst hj
     have h0 := hz2 (i + (canon y).length) (Nat.le_refl _)
     have hp : i + (canon y).length < o2.length := by omega
     have hs := yb o2 (i + (canon y).length) c hp
     refine ⟨by omega, fun _ => ⟨by omega, fun _ => ⟨by omega, fun _ => ⟨by omega, fun _ => ⟨by omega, fun _ => ⟨by omega, fun _ => ?_⟩⟩⟩⟩⟩⟩
     rw [if_neg (by decide), if_pos trivial]
     refine ⟨⟨o2.set (i + (canon y).length) c, i + 1, by simpa using hlen2, by omega, uj hd2 _ hcB, ?_⟩, by show _ - (i + 1) < _ - i; omega, by simp [S76, magS, natS, za], heap_set (by omega) hp rfl, by kernel_rfl, Nat.zero_le _⟩
     rw [h0, Nat.pow_add] at hs
     rw [List.take_length, zk] at he2
     rw [zr, Nat.add_mul, ← he]
     simp only [Nat.mul_zero, Nat.add_zero] at hs
     rw [hs, he2]
  ·have hge : i = (canon x).length := by simp at hge; omega
   subst hge
   rw [List.take_length, zk] at he
   refine ⟨o, ⟨rfl, by omega, by omega, za _ _ _, by simpa using hd⟩, ⟨_, rfl⟩, ?_⟩
   intro X hX
   have hX : X = x * y := by simpa [he] using hX
   subst hX
   refine ⟨[0], rfl, by simp, by simp, fun _ => ⟨?_, ?_⟩, _, _, zN ?_, ?_, rfl, hq⟩
   ·simp [resV, new2, new1, new0, zp]
   ·intro k hk
    simp only [List.mem_singleton] at hk
    subst hk
    intro j o' _ _
    rfl
   ·simp [resV, exp2, exp1, exp0, zp, eqA2, eqA]
   ·have hpad := WX hd
    rw [he, hlen] at hpad
    rw [← hpad]
    simp [expH, expB, hlen, za]
end Go.Proofs.Try
end

/- The integers' magnitudes: long division. -/
section
set_option maxRecDepth 100000
open Go Go.Sx Go.Proofs Go.Nov
namespace Go.Proofs.Try
attribute [local simp] eqKV eqA eqA0 eqH eqB eqL eqL0
noncomputable def K85 : List Go.Sx.Item := [.code (Try.f85.body.getD .skip)]
noncomputable def G2 : Nat → Option Ctr := fun f => if f = 95 then some (Wt) else if f = 96 then some (XM) else if f = 97 then some (yR) else if f = 98 then some (Uv) else if f = 99 then some (Ul) else if f = 100 then some (YV) else none
theorem WD : ∀ g c, G2 g = some c → zd Try.prog g c := okIf V3 (okIf XV (okIf QV (okIf YC (okIf Yx (okIf Yo (zu))))))
theorem jd {k : IntKind} {u : List Nat} {off n X : Nat} (hd : dig ((u.drop off).take n)) (hX : val ((u.drop off).take n) = X) : eqG (canon X).length 1 (zg (natG k u) off) (natG k (canon X)) := by
 have h := zY hd
 rw [hX] at h
 have hl := qi ((u.drop off).take n)
 intro j o hj ho
 simp only [zg, natG, AV.int.injEq, true_and]
 rw [← h] at hj ⊢
 simp only [qQ, List.length_take] at hj ⊢
 have hjn : j < n := by simp at hj hl; omega
 have e : (List.take (tlen ((u.drop off).take n)) ((u.drop off).take n)).getD j 0 = ((u.drop off).take n).getD j 0 := by
  simp only [List.getD, List.getElem?_take]
  rw [if_pos (by omega)]
 rw [e, kL _ _ _ _ hjn]
theorem kJ (k : IntKind) (n : Nat) : eqG 1 1 (zf 1 [.int k (n : Int)]) (natG k [n]) := by
 intro j o hj ho
 have : j = 0 := by omega
 have : o = 0 := by omega
 subst_vars; rfl
theorem XJ {k : IntKind} {n : Nat} {g : Nat → Nat → AV} {u : List Nat} {off m : Nat} (h : eqG m 1 g (natG k u)) (hm : off + n ≤ m) : eqG n 1 (zg g off) (zg (natG k u) off) := by
 intro j o hj ho
 exact h (off + j) o (by omega) ho
theorem ye {n sz : Nat} {f g h : Nat → Nat → AV} (h1 : eqG n sz f g) (h2 : eqG n sz g h) : eqG n sz f h := fun j o hj ho => (h1 j o hj ho).trans (h2 j o hj ho)
theorem jU {d : Nat} (hd : d < B) : eqG (canon d).length 1 (zg (zf 1 [.int .u32 (d : Int)]) 0) (natG .u32 (canon d)) := by
 have h1 : dig (([d].drop 0).take 1) := by simpa [dig] using hd
 have h2 : val (([d].drop 0).take 1) = d := by simp [val]
 have h3 := jd (k := .u32) h1 h2
 refine ye (XJ (kJ .u32 d) ?_) h3
 have := zx (x := d) (n := 1) (by simpa using hd)
 omega
theorem xA {N p : Nat} (hN : (canon p).length ≤ N) : eqG (canon p).length 1 (zg (natG .u32 (padN N p)) 0) (natG .u32 (canon p)) := by
 intro j o hj ho
 simp only [zg, natG, Nat.zero_add, padN, AV.int.injEq, true_and]
 congr 1
 simp only [List.getD]
 rw [List.getElem?_append_left hj]
theorem Yd (N p i : Nat) : (padN N p).getD i 0 = (canon p).getD i 0 := by
 simp only [padN, List.getD]
 by_cases h : i < (canon p).length
 ·rw [List.getElem?_append_left h]
 ·rw [List.getElem?_append_right (by omega), List.getElem?_eq_none (show (canon p).length ≤ i by omega)]
  cases hh : (List.replicate (N - (canon p).length) 0)[i - (canon p).length]? with
  | none => rfl
  | some z => have := List.mem_of_getElem? hh; simp at this; simp [this.2]
theorem QT {N p : Nat} (h : (canon p).length ≤ N) : (padN N p).length = N := by simp [padN]; omega
theorem U5 (N p : Nat) : dig (padN N p) := j4.2 ⟨zj _, q6 _⟩
theorem kT (x y : Nat) : (canon (x * y)).length ≤ (canon x).length + (canon y).length := by
 have h1 := zZ (zj x)
 have h2 := zZ (zj y)
 rw [zk] at h1 h2
 exact zx (by rw [Nat.pow_add]; exact Nat.mul_lt_mul'' h1 h2)
theorem ZI {d : Nat} (h0 : 0 < d) (hB : d < B) : (canon d).length = 1 := by
 have h1 := zx (x := d) (n := 1) (by simpa using hB)
 have h2 := qY (x := d) (n := 0) (by simp; omega)
 omega
def ui : Ctr := ctr2 false (fun x y => (canon x).length < 100000 ∧ (canon y).length < 100000 ∧ 0 < y) (fun x y (r : Nat × Nat) => r = (x / y, x % y)) (fun _ _ r => (.tup [magS r.1, magS r.2], []))
def SG (x y s k : Nat) : KV := [(0, magS x), (1, magS y), (4, .nils), (8, .int .u32 (s : Int)), (9, .int .i64 (((canon y).length : Nat) : Int)), (10, .osl 1 1 0 k), (11, .undef), (12, .undef), (13, .undef), (15, .undef), (151, .undef), (152, .undef)]
structure IG (x U : Nat) where
 k : Nat
 o : List Nat
 ko : k ≤ o.length
 le : o.length ≤ (canon x).length + 1
 dg : dig (o.take k)
 eq : val (o.take k) = U
def SD (y s V ul ql j : Nat) : KV := [(0, .undef), (1, .undef), (4, .osl 4 1 0 ql), (8, .int .u32 (s : Int)), (9, .int .i64 (((canon y).length : Nat) : Int)), (10, .osl 1 1 0 ul), (11, .osl 3 1 0 (canon V).length), (12, .int .i64 ((j : Int) - 1)), (13, .undef), (15, .undef), (151, .undef), (152, .undef)]
def HD (y V : Nat) (u q : List Nat) : Heap := [.dead, .arr u.length 1 (natG .u32 u), .dead, .arr ((canon y).length + 1) 1 (natG .u32 (padN ((canon y).length + 1) V)), .arr q.length 1 (natG .u32 q)]
structure ID (x y V U : Nat) where
 u : List Nat
 q : List Nat
 j : Nat
 ul : u.length = (canon x).length + 1
 ql : q.length + (canon y).length = (canon x).length + 1
 jq : j ≤ q.length
 du : dig u
 dq : dig q
 eq : U = V * B ^ j * val (q.drop j) + val u
 lt : val u < V * B ^ j
def SC (y s V ul ql j d L i : Nat) : KV := [(0, .undef), (1, .undef), (4, .osl 4 1 0 ql), (8, .int .u32 (s : Int)), (9, .int .i64 (((canon y).length : Nat) : Int)), (10, .osl 1 1 0 ul), (11, .osl 3 1 0 (canon V).length), (12, .int .i64 (j : Int)), (13, .int .u64 (d : Int)), (15, magS L), (151, .int .i64 (((canon y).length + 1 : Nat) : Int)), (152, .int .i64 (i : Int))]
theorem Wc {x y s V U m i : Nat} {u q : List Nat} {O : Nat → Prop} {w0 : World} {Q : AV × Heap → Prop} {Hs0 : Nat → KV → Heap → Prop} (hm : (canon y).length = m + 2) (hx : (canon x).length < 100000) (hs0 : 0 < s) (hsB : s < B) (hV1 : V < B ^ (m + 2)) (hV2 : B ^ (m + 2) ≤ 2 * V) (hVl : (canon V).length = m + 2) (hV0 : 0 < V)
  (hul : u.length = (canon x).length + 1) (hql : q.length + (canon y).length = (canon x).length + 1) (hjq : i + 1 ≤ q.length) (hdu : dig u) (hdq : dig q) (heq : U = V * B ^ (i + 1) * val (q.drop (i + 1)) + val u) (hlt : val u < V * B ^ (i + 1)) {W : Nat} (hW : val ((u.drop i).take (m + 2 + 1)) = W) (hWB : W / V < B) (kv : KV) (h : Heap) (hle : LeK 0 Try.f85.ntmps kv h (SC y s V u.length q.length i (W / V) (W % V) 0) (HD y V u q)) :
  zc Try.prog Try.f85 O 0 w0 [] (fun d kv h => if d = 0 then ∃ x' : ID x y V U, x'.j < i + 1 ∧ LeK 0 Try.f85.ntmps kv h (SD y s V x'.u.length x'.q.length x'.j) (HD y V x'.u x'.q) else Hs0 d kv h) (RetR ui 0 Q)
   (.code (.loop (lps (inside (inside K85 0) 0) 0).1) :: (lps (inside (inside K85 0) 0) 0).2) (mk Try.f85.ntmps kv h) := by
 have hB : B = 1000000000 := rfl
 have c2 : 0 + (i : Int).toNat = i := by omega
 have hLV := Nat.mod_lt W hV0
 have hLl : (canon (W % V)).length ≤ m + 2 := zx (by omega)
 refine zc.loop (ι := {k : Nat // k ≤ m + 2 + 1}) (fun k => SC y s V u.length q.length i (W / V) (W % V) k.1) (fun k => HD y V (mixL u (canon (W % V)) i k.1) q) (fun k => m + 2 + 1 - k.1) ⟨0, Nat.zero_le _⟩ 1 ?_ ?_ (by kernel_rfl)
 ·simpa only [KH] using hle
 ·rintro ⟨k, hk⟩
  obtain ⟨L, hL⟩ : ∃ L, W % V = L := ⟨_, rfl⟩
  obtain ⟨d, hd⟩ : ∃ d, W / V = d := ⟨_, rfl⟩
  simp only [hL, hd]
  obtain ⟨u', hu'⟩ : ∃ u', mixL u (canon L) i k = u' := ⟨_, rfl⟩
  have hu'l : u'.length = u.length := by rw [← hu', Wj]
  simp only [hu', ← hu'l]
  rw [hL] at hLl hLV
  refine zc.run hmix WD [0, 1, 4, 8, 9, 10, 11, 12, 13, 15, 151, 152] 400 (T := .ite (decide ((↑k : Int) < (↑(List.length (canon y) + 1) : Int))) (.side (inR .i64 ((↑i : Int) + k)) (.side ((0 : Int) ≤ i + (↑k : Int) ∧ (↑i : Int) + k < (↑(List.length u') : Int)) (.ite (decide ((↑k : Int) < (↑(List.length (canon L)) : Int))) (.side (inR .i64 ((↑i : Int) + k)) (.side ((0 : Int) ≤ k ∧ (↑k : Int) < (↑(List.length (canon L)) : Int)) (.side ((0 : Int) ≤ i + (↑k : Int) ∧ (↑i : Int) + k < (↑(List.length u') : Int)) (.side (inR .i64 ((↑k : Int) + (1 : Int))) (.leaf (.back 1 [(0, .undef), (1, .undef), (4, .osl 4 1 0 q.length), (8, .int .u32 s), (9, .int .i64 (↑(canon y).length : Int)), (10, .osl 1 1 0 (List.length u')), (11, .osl 3 1 0 (List.length (canon V))), (12, .int .i64 i), (13, .int .u64 d), (15, .sl (List.length (canon L)) 1 (natG .u32 (canon L))), (151, .int .i64 (↑(List.length (canon y) + 1) : Int)), (152, .int .i64 ((↑k : Int) + (1 : Int)))] [.dead, .arr (List.length u') 1 (updG (updG (natG .u32 u') (0 + Int.toNat ((↑i : Int) + k)) 0 [.int .u32 0]) (0 + Int.toNat ((↑i : Int) + k)) 0 [.int .u32 (↑(List.getD (canon L) (Int.toNat (↑k : Int)) 0) : Int)]), .dead, .arr (List.length (canon y) + 1) 1 (natG .u32 (padN (List.length (canon y) + 1) V)), .arr q.length 1 (natG .u32 q)])))))) (.side (inR .i64 ((↑k : Int) + (1 : Int))) (.leaf (.back 1 [(0, .undef), (1, .undef), (4, .osl 4 1 0 q.length), (8, .int .u32 s), (9, .int .i64 (↑(canon y).length : Int)), (10, .osl 1 1 0 (List.length u')), (11, .osl 3 1 0 (List.length (canon V))), (12, .int .i64 i), (13, .int .u64 d), (15, .sl (List.length (canon L)) 1 (natG .u32 (canon L))), (151, .int .i64 (↑(List.length (canon y) + 1) : Int)), (152, .int .i64 ((↑k : Int) + (1 : Int)))] [.dead, .arr (List.length u') 1 (updG (natG .u32 u') (0 + Int.toNat ((↑i : Int) + k)) 0 [.int .u32 0]), .dead, .arr (List.length (canon y) + 1) 1 (natG .u32 (padN (List.length (canon y) + 1) V)), .arr q.length 1 (natG .u32 q)])))))) (.side (inR .u32 (↑d : Int)) (.side ((0 : Int) ≤ i ∧ (↑i : Int) < q.length) (.side (inR .i64 ((↑i : Int) - (1 : Int))) (.leaf (.back 0 [(0, .undef), (1, .undef), (4, .osl 4 1 0 q.length), (8, .int .u32 s), (9, .int .i64 (↑(canon y).length : Int)), (10, .osl 1 1 0 (List.length u')), (11, .osl 3 1 0 (List.length (canon V))), (12, .int .i64 ((↑i : Int) - (1 : Int))), (13, .int .u64 d), (15, .sl (List.length (canon L)) 1 (natG .u32 (canon L))), (151, .int .i64 (↑(List.length (canon y) + 1) : Int)), (152, .int .i64 k)] [.dead, .arr (List.length u') 1 (natG .u32 u'), .dead, .arr (List.length (canon y) + 1) 1 (natG .u32 (padN (List.length (canon y) + 1) V)), .arr q.length 1 (updG (natG .u32 q) (0 + Int.toNat (↑i : Int)) 0 [.int .u32 d])])))))) (by kernel_rfl) ?_
  have ek : 0 + ((i : Int) + (k : Int)).toNat = i + k := by omega
  have ek1 : ((k : Int) + 1) = ((k + 1 : Nat) : Int) := by omega
  simp only [Tree.holds, ze, inR, lo, hi, ek, ek1, c2, Int.toNat_natCast]
  refine ⟨fun hlt => ?_, fun hge => ?_⟩
  ·have hlt : k < m + 2 + 1 := by simp at hlt; omega
   have hik : i + k < u'.length := by omega
   refine ⟨by omega, fun _ => ⟨by omega, fun _ => ⟨fun hin => ?_, fun hout => ?_⟩⟩⟩
   ·have hin : k < (canon L).length := by simp at hin; omega
    iterate 4 refine ⟨by omega, fun _ => ?_⟩
    rw [if_pos trivial]
    refine ⟨⟨k + 1, by omega⟩, by show m + 2 + 1 - (k + 1) < m + 2 + 1 - k; omega, by simp [SC, magS, natS, za], ?_, by kernel_rfl, Nat.zero_le _⟩
    have hs2 := Wv u (canon L) i k 0
    rw [hu'] at hs2
    simp only [← hs2]
    refine ⟨trivial, ⟨by simp, rfl, ?_⟩, trivial, by simp [za], by simp [za], trivial⟩
    have h1 := wO (k := .u32) (l := u') (v := 0) (i := i + k) (by omega) hik
    have h2 := wO (k := .u32) (l := u'.set (i + k) 0) (v := ((canon L).getD k 0 : Nat)) (i := i + k) (by omega) (by simpa using hik)
    simp only [List.length_set, Int.toNat_natCast] at h2
    refine ye ?_ h2
    intro p o hp ho
    have := h1 p o hp ho
    simp only [updG] at this ⊢
    split
    ·rfl
    ·exact this
   ·have hout : (canon L).length ≤ k := by simp at hout; omega
    refine ⟨by omega, fun _ => ?_⟩
    rw [if_pos trivial]
    refine ⟨⟨k + 1, by omega⟩, by show m + 2 + 1 - (k + 1) < m + 2 + 1 - k; omega, by simp [SC, magS, natS, za], ?_, by kernel_rfl, Nat.zero_le _⟩
    have hs2 := Wv u (canon L) i k 0
    rw [hu'] at hs2
    have hz : (canon L).getD k 0 = 0 := by simp [List.getD, List.getElem?_eq_none hout]
    rw [hz, List.set_set] at hs2
    simp only [← hs2]
    refine ⟨trivial, ⟨by simp, rfl, ?_⟩, trivial, by simp [za], by simp [za], trivial⟩
    exact wO (k := .u32) (l := u') (v := 0) (i := i + k) (by omega) hik
  ·have hk : k = m + 2 + 1 := by simp at hge; omega
   subst hk
   have hdB : d < B := hd ▸ hWB
   iterate 3 refine ⟨by omega, fun _ => ?_⟩
   rw [if_neg (by decide), if_pos trivial]
   have hval := Y3 (u := u) (L := L) (j := i) (k := m + 2 + 1) (by omega) (by omega)
   rw [hu'] at hval
   have hst := step_eq (u := u) (u' := u') (q := q) (j := i) (k := m + 2 + 1) (V := V) (U0 := U) hdu (by omega) (by simpa using hV1) (by omega) hV0 hlt (by omega) heq (by rw [hW, hL]; exact hval)
   rw [hW, hd] at hst
   refine ⟨⟨u', q.set i d, i, by omega, by simpa using hql, by simp; omega, ?_, uj hdq _ hdB, hst.2, hst.1⟩, Nat.lt_succ_self _, by simp [SD, za], ?_, by kernel_rfl, Nat.zero_le _⟩
   ·rw [← hu']; exact Ux hdu (zj _) _ _
   ·refine ⟨trivial, ⟨rfl, rfl, za _ _ _⟩, trivial, ⟨rfl, rfl, za _ _ _⟩, ⟨by simp, rfl, ?_⟩, trivial⟩
    have := wO (k := .u32) (l := q) (v := (d : Int)) (i := i) (by omega) (by omega)
    simpa using this
set_option maxHeartbeats 2000000 in
theorem Jm {x y s V U m i : Nat} {u q : List Nat} {O : Nat → Prop} {w0 : World} {Q : AV × Heap → Prop} {Hs0 : Nat → KV → Heap → Prop} (hm : (canon y).length = m + 2) (hx : (canon x).length < 100000) (hs0 : 0 < s) (hsB : s < B) (hV1 : V < B ^ (m + 2)) (hV2 : B ^ (m + 2) ≤ 2 * V) (hVl : (canon V).length = m + 2) (hV0 : 0 < V)
  (hul : u.length = (canon x).length + 1) (hql : q.length + (canon y).length = (canon x).length + 1) (hjq : i + 1 ≤ q.length) (hdu : dig u) (hdq : dig q) (heq : U = V * B ^ (i + 1) * val (q.drop (i + 1)) + val u) (hlt : val u < V * B ^ (i + 1)) :
  zc Try.prog Try.f85 O 0 w0 [] (fun d kv h => if d = 0 then ∃ x' : ID x y V U, x'.j < i + 1 ∧ LeK 0 Try.f85.ntmps kv h (SD y s V x'.u.length x'.q.length x'.j) (HD y V x'.u x'.q) else Hs0 d kv h) (RetR ui 0 Q) (inside (inside K85 0) 0) (mk Try.f85.ntmps (SD y s V u.length q.length (i + 1)) (HD y V u q)) := by
 have hB : B = 1000000000 := rfl
 refine zc.run hmix WD [0, 1, 4, 8, 9, 10, 11, 12, 13, 15, 151, 152] 400 (T := .ite (decide ((0 : Int) ≤ (↑(i + 1) : Int) - (1 : Int))) (.side (inR .i64 ((↑(i + 1) : Int) - (1 : Int) + (↑(canon y).length : Int))) (.side ((0 : Int) ≤ (↑(i + 1) : Int) - (1 : Int) + (↑(canon y).length : Int) ∧ (↑(i + 1) : Int) - (1 : Int) + (↑(canon y).length : Int) < u.length) (.side (inR .u64 (↑(List.getD u (0 + Int.toNat ((↑(i + 1) : Int) - (1 : Int) + (↑(canon y).length : Int))) 0) : Int)) (.side (inR .i64 ((↑(i + 1) : Int) - (1 : Int) + (↑(canon y).length : Int))) (.side (inR .i64 ((↑(i + 1) : Int) - (1 : Int) + (↑(canon y).length : Int) - (1 : Int))) (.side ((0 : Int) ≤ (↑(i + 1) : Int) - (1 : Int) + (↑(canon y).length : Int) - (1 : Int) ∧ (↑(i + 1) : Int) - (1 : Int) + (↑(canon y).length : Int) - (1 : Int) < u.length) (.side (inR .u64 (↑(List.getD u (0 + Int.toNat ((↑(i + 1) : Int) - (1 : Int) + (↑(canon y).length : Int) - (1 : Int))) 0) : Int)) (.side (inR .i64 ((↑(i + 1) : Int) - (1 : Int) + (↑(canon y).length : Int))) (.side (inR .i64 ((↑(i + 1) : Int) - (1 : Int) + (↑(canon y).length : Int) - (2 : Int))) (.side ((0 : Int) ≤ (↑(i + 1) : Int) - (1 : Int) + (↑(canon y).length : Int) - (2 : Int) ∧ (↑(i + 1) : Int) - (1 : Int) + (↑(canon y).length : Int) - (2 : Int) < u.length) (.side (inR .u64 (↑(List.getD u (0 + Int.toNat ((↑(i + 1) : Int) - (1 : Int) + (↑(canon y).length : Int) - (2 : Int))) 0) : Int)) (.side (inR .i64 ((↑(canon y).length : Int) - (1 : Int))) (.side ((0 : Int) ≤ (↑(canon y).length : Int) - (1 : Int) ∧ (↑(canon y).length : Int) - (1 : Int) < (↑(List.length (canon V)) : Int)) (.side (inR .u64 (↑(List.getD (padN (List.length (canon y) + 1) V) (0 + Int.toNat ((↑(canon y).length : Int) - (1 : Int))) 0) : Int)) (.side (inR .i64 ((↑(canon y).length : Int) - (2 : Int))) (.side ((0 : Int) ≤ (↑(canon y).length : Int) - (2 : Int) ∧ (↑(canon y).length : Int) - (2 : Int) < (↑(List.length (canon V)) : Int)) (.side (inR .u64 (↑(List.getD (padN (List.length (canon y) + 1) V) (0 + Int.toNat ((↑(canon y).length : Int) - (2 : Int))) 0) : Int)) (.ex (fun (x : D5) => eqL [AV.int .u64 (↑(List.getD u (0 + Int.toNat ((↑(i + 1) : Int) - (1 : Int) + (↑(canon y).length : Int))) 0) : Int), AV.int .u64 (↑(List.getD u (0 + Int.toNat ((↑(i + 1) : Int) - (1 : Int) + (↑(canon y).length : Int) - (1 : Int))) 0) : Int), AV.int .u64 (↑(List.getD u (0 + Int.toNat ((↑(i + 1) : Int) - (1 : Int) + (↑(canon y).length : Int) - (2 : Int))) 0) : Int), AV.int .u64 (↑(List.getD (padN (List.length (canon y) + 1) V) (0 + Int.toNat ((↑(canon y).length : Int) - (1 : Int))) 0) : Int), AV.int .u64 (↑(List.getD (padN (List.length (canon y) + 1) V) (0 + Int.toNat ((↑(canon y).length : Int) - (2 : Int))) 0) : Int)] [AV.int .u64 (↑(D5.t x) : Int), AV.int .u64 (↑(D5.u x) : Int), AV.int .u64 (↑(D5.v x) : Int), AV.int .u64 (↑(D5.y x) : Int), AV.int .u64 (↑(D5.z x) : Int)] ∧ D5.t x ≤ D5.y x ∧ D5.u x < 1000000000 ∧ D5.v x < 1000000000 ∧ D5.y x < 1000000000 ∧ D5.z x < 1000000000 ∧ 1000000000 ≤ 2 * D5.y x) fun n => .all (fun (n_1 : Nat) => n_1 = qC (D5.v n) (D5.y n) (D5.z n) 2 ((D5.t n * 1000000000 + D5.u n) / D5.y n) ((D5.t n * 1000000000 + D5.u n) % D5.y n)) fun n => .side (inR .u32 (↑n : Int)) (.ex (fun (u : List Nat) => u.length = 1 ∧ 1 ≤ 1 ∧ 1 < 4611686018427387904 ∧ eqG 1 1 (zf 1 [AV.int .u32 n]) (natG .u32 u) ∧ dig (List.take 1 (List.drop 0 u))) fun n_1 => .all (fun (x : Nat) => x = val (List.take 1 (List.drop 0 n_1))) fun n_2 => .ex (fun (x : Nat × Nat) => eqL [AV.sl (List.length (canon V)) 1 (zg (natG .u32 (padN (List.length (canon y) + 1) V)) 0), AV.sl (canon n_2).length 1 (zg (zf 1 [AV.int .u32 n]) 0)] [AV.sl (canon x.1).length 1 (natG .u32 (canon x.1)), AV.sl (canon x.2).length 1 (natG .u32 (canon x.2))] ∧ fits x.1 ∧ fits x.2) fun n_3 => .all (fun (p : Nat) => p = n_3.1 * n_3.2) fun n_4 => .side (inR .i64 ((↑(i + 1) : Int) - (1 : Int) + (↑(canon y).length : Int))) (.side (inR .i64 ((↑(i + 1) : Int) - (1 : Int) + (↑(canon y).length : Int) + (1 : Int))) (.side ((0 : Int) ≤ (↑(i + 1) : Int) - (1 : Int) ∧ (↑(i + 1) : Int) - (1 : Int) ≤ (↑(i + 1) : Int) - (1 : Int) + (↑(canon y).length : Int) + (1 : Int) ∧ (↑(i + 1) : Int) - (1 : Int) + (↑(canon y).length : Int) + (1 : Int) ≤ u.length) (.ex (fun (u_1 : List Nat) => u_1.length = u.length ∧ 0 + Int.toNat ((↑(i + 1) : Int) - (1 : Int)) + (Int.toNat ((↑(i + 1) : Int) - (1 : Int) + (↑(canon y).length : Int) + (1 : Int)) - Int.toNat ((↑(i + 1) : Int) - (1 : Int))) ≤ u.length ∧ Int.toNat ((↑(i + 1) : Int) - (1 : Int) + (↑(canon y).length : Int) + (1 : Int)) - Int.toNat ((↑(i + 1) : Int) - (1 : Int)) < 4611686018427387904 ∧ eqG u.length 1 (natG .u32 u) (natG .u32 u_1) ∧ dig (List.take (Int.toNat ((↑(i + 1) : Int) - (1 : Int) + (↑(canon y).length : Int) + (1 : Int)) - Int.toNat ((↑(i + 1) : Int) - (1 : Int))) (List.drop (0 + Int.toNat ((↑(i + 1) : Int) - (1 : Int))) u_1))) fun n_5 => .all (fun (x : Nat) => x = val (List.take (Int.toNat ((↑(i + 1) : Int) - (1 : Int) + (↑(canon y).length : Int) + (1 : Int)) - Int.toNat ((↑(i + 1) : Int) - (1 : Int))) (List.drop (0 + Int.toNat ((↑(i + 1) : Int) - (1 : Int))) n_5))) fun n_6 => .ex (fun (x : Nat × Nat) => eqL [AV.sl (canon n_6).length 1 (zg (natG .u32 u) (0 + Int.toNat ((↑(i + 1) : Int) - (1 : Int)))), AV.sl (canon n_4).length 1 (zg (natG .u32 (padN (List.length (canon n_3.1) + List.length (canon n_3.2)) n_4)) 0)] [AV.sl (canon x.1).length 1 (natG .u32 (canon x.1)), AV.sl (canon x.2).length 1 (natG .u32 (canon x.2))] ∧ fits x.1 ∧ fits x.2) fun n_7 => .all (fun (r : Int) => r = cmp3 n_7.1 n_7.2) fun n_8 => .ite (decide (n_8 < 0)) (.side (inR .u64 ((↑n : Int) - (1 : Int))) (.side (inR .u32 ((↑n : Int) - (1 : Int))) (.ex (fun (u : List Nat) => u.length = 1 ∧ 1 ≤ 1 ∧ 1 < 4611686018427387904 ∧ eqG 1 1 (zf 1 [AV.int .u32 ((↑n : Int) - (1 : Int))]) (natG .u32 u) ∧ dig (List.take 1 (List.drop 0 u))) fun n_9 => .all (fun (x : Nat) => x = val (List.take 1 (List.drop 0 n_9))) fun n_10 => .ex (fun (x : Nat × Nat) => eqL [AV.sl (List.length (canon V)) 1 (zg (natG .u32 (padN (List.length (canon y) + 1) V)) 0), AV.sl (canon n_10).length 1 (zg (zf 1 [AV.int .u32 ((↑n : Int) - (1 : Int))]) 0)] [AV.sl (canon x.1).length 1 (natG .u32 (canon x.1)), AV.sl (canon x.2).length 1 (natG .u32 (canon x.2))] ∧ fits x.1 ∧ fits x.2) fun n_11 => .all (fun (p : Nat) => p = n_11.1 * n_11.2) fun n_12 => .side (inR .i64 ((↑(i + 1) : Int) - (1 : Int) + (↑(canon y).length : Int))) (.side (inR .i64 ((↑(i + 1) : Int) - (1 : Int) + (↑(canon y).length : Int) + (1 : Int))) (.side ((0 : Int) ≤ (↑(i + 1) : Int) - (1 : Int) ∧ (↑(i + 1) : Int) - (1 : Int) ≤ (↑(i + 1) : Int) - (1 : Int) + (↑(canon y).length : Int) + (1 : Int) ∧ (↑(i + 1) : Int) - (1 : Int) + (↑(canon y).length : Int) + (1 : Int) ≤ u.length) (.ex (fun (u_1 : List Nat) => u_1.length = u.length ∧ 0 + Int.toNat ((↑(i + 1) : Int) - (1 : Int)) + (Int.toNat ((↑(i + 1) : Int) - (1 : Int) + (↑(canon y).length : Int) + (1 : Int)) - Int.toNat ((↑(i + 1) : Int) - (1 : Int))) ≤ u.length ∧ Int.toNat ((↑(i + 1) : Int) - (1 : Int) + (↑(canon y).length : Int) + (1 : Int)) - Int.toNat ((↑(i + 1) : Int) - (1 : Int)) < 4611686018427387904 ∧ eqG u.length 1 (natG .u32 u) (natG .u32 u_1) ∧ dig (List.take (Int.toNat ((↑(i + 1) : Int) - (1 : Int) + (↑(canon y).length : Int) + (1 : Int)) - Int.toNat ((↑(i + 1) : Int) - (1 : Int))) (List.drop (0 + Int.toNat ((↑(i + 1) : Int) - (1 : Int))) u_1))) fun n_13 => .all (fun (x : Nat) => x = val (List.take (Int.toNat ((↑(i + 1) : Int) - (1 : Int) + (↑(canon y).length : Int) + (1 : Int)) - Int.toNat ((↑(i + 1) : Int) - (1 : Int))) (List.drop (0 + Int.toNat ((↑(i + 1) : Int) - (1 : Int))) n_13))) fun n_14 => .ex (fun (x : Nat × Nat) => eqL [AV.sl (canon n_14).length 1 (zg (natG .u32 u) (0 + Int.toNat ((↑(i + 1) : Int) - (1 : Int)))), AV.sl (canon n_12).length 1 (zg (natG .u32 (padN (List.length (canon n_11.1) + List.length (canon n_11.2)) n_12)) 0)] [AV.sl (canon x.1).length 1 (natG .u32 (canon x.1)), AV.sl (canon x.2).length 1 (natG .u32 (canon x.2))] ∧ fits x.1 ∧ x.2 ≤ x.1) fun n_15 => .all (fun (d : Nat) => d = n_15.1 - n_15.2) fun n_16 => .side (inR .i64 ((↑(canon y).length : Int) + (1 : Int))) (.leaf (.loop (Prod.fst (lps (inside (inside K85 0) 0) 0)) (Prod.snd (lps (inside (inside K85 0) 0) 0)) [(0, .undef), (1, .undef), (4, .osl 4 1 0 q.length), (8, .int .u32 s), (9, .int .i64 (↑(canon y).length : Int)), (10, .osl 1 1 0 u.length), (11, .osl 3 1 0 (List.length (canon V))), (12, .int .i64 ((↑(i + 1) : Int) - (1 : Int))), (13, .int .u64 ((↑n : Int) - (1 : Int))), (15, .sl (canon n_16).length 1 (natG .u32 (canon n_16))), (151, .int .i64 ((↑(canon y).length : Int) + (1 : Int))), (152, .int .i64 0)] [.dead, .arr u.length 1 (natG .u32 u), .dead, .arr (List.length (canon y) + 1) 1 (natG .u32 (padN (List.length (canon y) + 1) V)), .arr q.length 1 (natG .u32 q), .arr 1 1 (zf 1 [.int .u32 n]), .arr (List.length (canon n_3.1) + List.length (canon n_3.2)) 1 (natG .u32 (padN (List.length (canon n_3.1) + List.length (canon n_3.2)) n_4)), .arr 1 1 (zf 1 [.int .u32 ((↑n : Int) - (1 : Int))]), .arr (List.length (canon n_11.1) + List.length (canon n_11.2)) 1 (natG .u32 (padN (List.length (canon n_11.1) + List.length (canon n_11.2)) n_12))])))))))) (.side (inR .i64 ((↑(i + 1) : Int) - (1 : Int) + (↑(canon y).length : Int))) (.side (inR .i64 ((↑(i + 1) : Int) - (1 : Int) + (↑(canon y).length : Int) + (1 : Int))) (.side ((0 : Int) ≤ (↑(i + 1) : Int) - (1 : Int) ∧ (↑(i + 1) : Int) - (1 : Int) ≤ (↑(i + 1) : Int) - (1 : Int) + (↑(canon y).length : Int) + (1 : Int) ∧ (↑(i + 1) : Int) - (1 : Int) + (↑(canon y).length : Int) + (1 : Int) ≤ u.length) (.ex (fun (u_1 : List Nat) => u_1.length = u.length ∧ 0 + Int.toNat ((↑(i + 1) : Int) - (1 : Int)) + (Int.toNat ((↑(i + 1) : Int) - (1 : Int) + (↑(canon y).length : Int) + (1 : Int)) - Int.toNat ((↑(i + 1) : Int) - (1 : Int))) ≤ u.length ∧ Int.toNat ((↑(i + 1) : Int) - (1 : Int) + (↑(canon y).length : Int) + (1 : Int)) - Int.toNat ((↑(i + 1) : Int) - (1 : Int)) < 4611686018427387904 ∧ eqG u.length 1 (natG .u32 u) (natG .u32 u_1) ∧ dig (List.take (Int.toNat ((↑(i + 1) : Int) - (1 : Int) + (↑(canon y).length : Int) + (1 : Int)) - Int.toNat ((↑(i + 1) : Int) - (1 : Int))) (List.drop (0 + Int.toNat ((↑(i + 1) : Int) - (1 : Int))) u_1))) fun n_9 => .all (fun (x : Nat) => x = val (List.take (Int.toNat ((↑(i + 1) : Int) - (1 : Int) + (↑(canon y).length : Int) + (1 : Int)) - Int.toNat ((↑(i + 1) : Int) - (1 : Int))) (List.drop (0 + Int.toNat ((↑(i + 1) : Int) - (1 : Int))) n_9))) fun n_10 => .ex (fun (x : Nat × Nat) => eqL [AV.sl (canon n_10).length 1 (zg (natG .u32 u) (0 + Int.toNat ((↑(i + 1) : Int) - (1 : Int)))), AV.sl (canon n_4).length 1 (zg (natG .u32 (padN (List.length (canon n_3.1) + List.length (canon n_3.2)) n_4)) 0)] [AV.sl (canon x.1).length 1 (natG .u32 (canon x.1)), AV.sl (canon x.2).length 1 (natG .u32 (canon x.2))] ∧ fits x.1 ∧ x.2 ≤ x.1) fun n_11 => .all (fun (d : Nat) => d = n_11.1 - n_11.2) fun n_12 => .side (inR .i64 ((↑(canon y).length : Int) + (1 : Int))) (.leaf (.loop (Prod.fst (lps (inside (inside K85 0) 0) 0)) (Prod.snd (lps (inside (inside K85 0) 0) 0)) [(0, .undef), (1, .undef), (4, .osl 4 1 0 q.length), (8, .int .u32 s), (9, .int .i64 (↑(canon y).length : Int)), (10, .osl 1 1 0 u.length), (11, .osl 3 1 0 (List.length (canon V))), (12, .int .i64 ((↑(i + 1) : Int) - (1 : Int))), (13, .int .u64 n), (15, .sl (canon n_12).length 1 (natG .u32 (canon n_12))), (151, .int .i64 ((↑(canon y).length : Int) + (1 : Int))), (152, .int .i64 0)] [.dead, .arr u.length 1 (natG .u32 u), .dead, .arr (List.length (canon y) + 1) 1 (natG .u32 (padN (List.length (canon y) + 1) V)), .arr q.length 1 (natG .u32 q), .arr 1 1 (zf 1 [.int .u32 n]), .arr (List.length (canon n_3.1) + List.length (canon n_3.2)) 1 (natG .u32 (padN (List.length (canon n_3.1) + List.length (canon n_3.2)) n_4))])))))))))))))))))))))))))))) (.ex (fun (u_1 : List Nat) => u_1.length = u.length ∧ 0 + u.length ≤ u.length ∧ u.length < 4611686018427387904 ∧ eqG u.length 1 (natG .u32 u) (natG .u32 u_1) ∧ dig (List.take u.length (List.drop 0 u_1))) fun n => .all (fun (x : Nat) => x = val (List.take u.length (List.drop 0 n))) fun n => .ex (fun (x : Nat × Nat) => eqL [AV.sl (canon n).length 1 (zg (natG .u32 u) 0), AV.int .u32 s] [AV.sl (canon x.1).length 1 (natG .u32 (canon x.1)), AV.int .u32 x.2] ∧ fits x.1 ∧ 0 < x.2 ∧ x.2 < 1000000000) fun n => .all (fun (r : Nat × Nat) => r = (n.1 / n.2, n.1 % n.2)) fun n => .ex (fun (u : List Nat) => u.length = q.length ∧ 0 + q.length ≤ q.length ∧ q.length < 4611686018427387904 ∧ eqG q.length 1 (natG .u32 q) (natG .u32 u) ∧ dig (List.take q.length (List.drop 0 u))) fun n_1 => .all (fun (x : Nat) => x = val (List.take q.length (List.drop 0 n_1))) fun n_2 => .leaf (.ret [.osl 4 1 0 (canon n_2).length, .sl (canon n.1).length 1 (natG .u32 (canon n.1))] [.dead, .arr u.length 1 (natG .u32 u), .dead, .arr (List.length (canon y) + 1) 1 (natG .u32 (padN (List.length (canon y) + 1) V)), .arr q.length 1 (natG .u32 q)]))) (by kernel_rfl) ?_
 simp only [Tree.holds, ze, inR, lo, hi]
 refine ⟨fun hj => ?_, fun hj => by simp at hj⟩
 have ej : (((i + 1 : Nat) : Int) - 1) = (i : Int) := by omega
 have a1 : 0 + ((i : Int) + ((canon y).length : Int)).toNat = i + (m + 2) := by omega
 have a2 : 0 + ((i : Int) + ((canon y).length : Int) - 1).toNat = i + (m + 1) := by omega
 have a3 : 0 + ((i : Int) + ((canon y).length : Int) - 2).toNat = i + m := by omega
 have b1 : 0 + (((canon y).length : Int) - 1).toNat = m + 1 := by omega
 have b2 : 0 + (((canon y).length : Int) - 2).toNat = m := by omega
 have c1 : ((i : Int) + ((canon y).length : Int) + 1).toNat - (i : Int).toNat = m + 2 + 1 := by omega
 have c2 : 0 + (i : Int).toNat = i := by omega
 simp only [ej, a1, a2, a3, b1, b2, c1, c2, Yd]
 have hu1 := zK hdu (i + (m + 2))
 have hu2 := zK hdu (i + (m + 1))
 have hu3 := zK hdu (i + m)
 have hv1 := zK (zj V) (m + 1)
 have hv2 := zK (zj V) m
 iterate 17 refine ⟨by omega, fun _ => ?_⟩
 obtain ⟨W, hW⟩ : ∃ W, val ((u.drop i).take (m + 2 + 1)) = W := ⟨_, rfl⟩
 have hdw : dig ((u.drop i).take (m + 2 + 1)) := qT (Zt hdu _) _
 have hWl : (canon W).length ≤ m + 2 + 1 := by
  refine zx ?_
  have := zZ hdw
  rw [hW, List.length_take] at this
  exact Nat.lt_of_lt_of_le this (Nat.pow_le_pow_right (by decide) (Nat.min_le_left _ _))
 obtain ⟨g1, g2, g3, g4, g5, g6⟩ := Yz hdu (by omega) hVl hV2 hlt hW rfl
 refine ⟨⟨u.getD (i + (m + 2)) 0, u.getD (i + (m + 1)) 0, u.getD (i + m) 0, (canon V).getD (m + 1) 0, (canon V).getD m 0⟩, ⟨by simp, g3, hu2, hu3, hv1, hv2, g2⟩, ⟨_, rfl⟩, ?_⟩
 intro d hd
 simp only at hd
 rw [← hd] at g4 g5 g6
 clear hd
 have hWVB : W / V < B := by omega
 have fin := Wc (x := x) (y := y) (s := s) (V := V) (U := U) (O := O) (w0 := w0) (Q := Q) (Hs0 := Hs0) hm hx hs0 hsB hV1 hV2 hVl hV0 hul hql hjq hdu hdq heq hlt hW hWVB
 have hdm := Nat.div_add_mod W V
 have hmlt := Nat.mod_lt W hV0
 have hul2 : i + (m + 2 + 1) ≤ u.length := by omega
 have hul3 : u.length < 100002 := by omega
 clear heq hlt hul hql hjq hdq hx hs0 hsB hV2 g1 g2 g3 hu1 hu2 hu3 hv1 hv2 hj a1 a2 a3 b1 b2
 generalize W / V = qd at *
 generalize W % V = rm at *
 refine ⟨by omega, fun _ => ?_⟩
 refine ⟨[d], ⟨rfl, by omega, by omega, kJ _ _, by simpa [dig] using g6⟩, ⟨_, rfl⟩, ?_⟩
 intro D hD
 have hD : D = d := by simpa [val] using hD
 subst hD
 have hdl := zx (x := D) (n := 1) (by simpa using g6)
 refine ⟨(V, D), ⟨?_, by simp only [fits]; omega, by simp only [fits]; omega⟩, ⟨_, rfl⟩, ?_⟩
 ·simp only [eqL, eqA, eqA0, true_and, and_true]
  exact ⟨xA (by omega), jU g6⟩
 intro p hp
 simp only at hp ⊢
 have hpl := kT V D
 rw [← hp] at hpl
 iterate 3 refine ⟨by omega, fun _ => ?_⟩
 refine ⟨u, ⟨rfl, hul2, by omega, za _ _ _, hdw⟩, ⟨_, rfl⟩, ?_⟩
 intro W' hW'
 have hW' : W' = W := hW'.trans hW
 subst hW'
 refine ⟨(W', p), ⟨?_, by simp only [fits]; omega, by simp only [fits]; omega⟩, ⟨_, rfl⟩, ?_⟩
 ·simp only [eqL, eqA, eqA0, true_and, and_true]
  exact ⟨jd hdw hW, xA hpl⟩
 rintro c rfl
 refine ⟨fun hlt2 => ?_, fun hge2 => ?_⟩
 ·have hlt2 : W' < p := by
   simp only [cmp3, decide_eq_true_eq] at hlt2
   rcases Nat.lt_or_ge W' p with h | h
   ·exact h
   ·rw [if_neg (by omega)] at hlt2; split at hlt2 <;> omega
  have hDQ : D = qd + 1 := by
   rcases Nat.lt_or_ge qd D with h | h
   ·omega
   ·have : V * D ≤ V * qd := Nat.mul_le_mul_left _ h
    omega
  have e3 : ((D : Int) - 1) = ((qd : Nat) : Int) := by omega
  simp only [e3]
  have hQl := zx (x := qd) (n := 1) (by simpa using hWVB)
  iterate 2 refine ⟨by omega, fun _ => ?_⟩
  refine ⟨[qd], ⟨rfl, by omega, by omega, kJ _ _, by simpa [dig] using hWVB⟩, ⟨_, rfl⟩, ?_⟩
  intro E hE
  have hE : E = qd := by simpa [val] using hE
  subst hE
  refine ⟨(V, E), ⟨?_, by simp only [fits]; omega, by simp only [fits]; omega⟩, ⟨_, rfl⟩, ?_⟩
  ·simp only [eqL, eqA, eqA0, true_and, and_true]
   exact ⟨xA (by omega), jU hWVB⟩
  intro p2 hp2
  simp only at hp2 ⊢
  have hp2l := kT V E
  rw [← hp2] at hp2l
  iterate 3 refine ⟨by omega, fun _ => ?_⟩
  refine ⟨u, ⟨rfl, hul2, by omega, za _ _ _, hdw⟩, ⟨_, rfl⟩, ?_⟩
  intro W2 hW2
  have hW2 : W2 = W' := hW2.trans hW
  subst hW2
  refine ⟨(W2, p2), ⟨?_, by simp only [fits]; omega, by simp only; omega⟩, ⟨_, rfl⟩, ?_⟩
  ·simp only [eqL, eqA, eqA0, true_and, and_true]
   exact ⟨jd hdw hW, xA hp2l⟩
  intro L hL
  simp only at hL ⊢
  have hL : L = rm := by omega
  subst hL
  refine ⟨by omega, fun _ => ?_⟩
  refine fin _ _ ⟨by simp [SC, magS, natS, za, hVl], ?_, by kernel_rfl, Nat.zero_le _⟩
  simp [HD, za]
 ·have hge2 : p ≤ W' := by
   simp only [cmp3, decide_eq_false_iff_not] at hge2
   rcases Nat.lt_or_ge W' p with h | h
   ·rw [if_pos h] at hge2; omega
   ·exact h
  have hDQ : D = qd := by
   rcases Nat.lt_or_ge qd D with h | h
   ·have : V * (qd + 1) ≤ V * D := Nat.mul_le_mul_left _ h
    rw [Nat.mul_add] at this
    omega
   ·omega
  subst hDQ
  iterate 3 refine ⟨by omega, fun _ => ?_⟩
  refine ⟨u, ⟨rfl, hul2, by omega, za _ _ _, hdw⟩, ⟨_, rfl⟩, ?_⟩
  intro W2 hW2
  have hW2 : W2 = W' := hW2.trans hW
  subst hW2
  refine ⟨(W2, p), ⟨?_, by simp only [fits]; omega, hge2⟩, ⟨_, rfl⟩, ?_⟩
  ·simp only [eqL, eqA, eqA0, true_and, and_true]
   exact ⟨jd hdw hW, xA hpl⟩
  intro L hL
  simp only at hL ⊢
  have hL : L = rm := by omega
  subst hL
  refine ⟨by omega, fun _ => ?_⟩
  refine fin _ _ ⟨by simp [SC, magS, natS, za, hVl], ?_, by kernel_rfl, Nat.zero_le _⟩
  simp [HD, za]
set_option maxHeartbeats 4000000 in
theorem XB : zd Try.prog 85 ui := by
 refine uy (fn := Try.f85) (c := Try.f85.body.getD .skip) rfl rfl rfl fun x y hp O w0 Q hq => ?_
 replace hq := hq _ rfl
 obtain ⟨hx, hy, hy0⟩ := hp
 simp only at hq
 have hB : B = 1000000000 := rfl
 refine zc.run hmix WD [0, 1, 4, 8, 9, 10, 11, 12, 13, 15, 151, 152] 400 (T := .ex (fun (x_1 : Nat × Nat) => eqL [AV.sl (canon x).length 1 (natG .u32 (canon x)), AV.sl (canon y).length 1 (natG .u32 (canon y))] [AV.sl (canon x_1.1).length 1 (natG .u32 (canon x_1.1)), AV.sl (canon x_1.2).length 1 (natG .u32 (canon x_1.2))] ∧ fits x_1.1 ∧ fits x_1.2) fun n => .all (fun (r : Int) => r = cmp3 n.1 n.2) fun n => .ite (decide (n < 0)) (.leaf (.ret [.nils, .sl (canon x).length 1 (natG .u32 (canon x))] [])) (.ite (decide ((↑(canon y).length : Int) = 1)) (.side ((0 : Int) ≤ 0 ∧ (0 : Int) < (↑(canon y).length : Int)) (.ex (fun (x_1 : Nat × Nat) => eqL [AV.sl (canon x).length 1 (natG .u32 (canon x)), AV.int .u32 (↑(List.getD (canon y) 0 0) : Int)] [AV.sl (canon x_1.1).length 1 (natG .u32 (canon x_1.1)), AV.int .u32 x_1.2] ∧ fits x_1.1 ∧ 0 < x_1.2 ∧ x_1.2 < 1000000000) fun n => .all (fun (r : Nat × Nat) => r = (n.1 / n.2, n.1 % n.2)) fun n => .ex (fun (u : List Nat) => u.length = 1 ∧ 1 ≤ 1 ∧ 1 < 4611686018427387904 ∧ eqG 1 1 (zf 1 [AV.int .u32 n.2]) (natG .u32 u) ∧ dig (List.take 1 (List.drop 0 u))) fun n_1 => .all (fun (x : Nat) => x = val (List.take 1 (List.drop 0 n_1))) fun n_2 => .leaf (.ret [.sl (canon n.1).length 1 (natG .u32 (canon n.1)), .osl 0 1 0 (canon n_2).length] [.arr 1 1 (zf 1 [.int .u32 n.2])]))) (.side (inR .i64 ((↑(canon y).length : Int) - (1 : Int))) (.side ((0 : Int) ≤ (↑(canon y).length : Int) - (1 : Int) ∧ (↑(canon y).length : Int) - (1 : Int) < (↑(canon y).length : Int)) (.side (inR .u64 (↑(List.getD (canon y) (Int.toNat ((↑(canon y).length : Int) - (1 : Int))) 0) : Int)) (.side (inR .u64 ((↑(List.getD (canon y) (Int.toNat ((↑(canon y).length : Int) - (1 : Int))) 0) : Int) + (1 : Int))) (.side ((↑(List.getD (canon y) (Int.toNat ((↑(canon y).length : Int) - (1 : Int))) 0) : Int) + (1 : Int) ≠ 0 ∧ inR .u64 (Int.tdiv (1000000000 : Int) ((↑(List.getD (canon y) (Int.toNat ((↑(canon y).length : Int) - (1 : Int))) 0) : Int) + (1 : Int)))) (.side (inR .u32 (Int.tdiv (1000000000 : Int) ((↑(List.getD (canon y) (Int.toNat ((↑(canon y).length : Int) - (1 : Int))) 0) : Int) + (1 : Int)))) (.ex (fun (x_1 : Nat × Nat) => eqL [AV.sl (canon x).length 1 (natG .u32 (canon x)), AV.sl 1 1 (zg (zf 1 [AV.int .u32 (Int.tdiv (1000000000 : Int) ((↑(List.getD (canon y) (Int.toNat ((↑(canon y).length : Int) - (1 : Int))) 0) : Int) + (1 : Int)))]) 0)] [AV.sl (canon x_1.1).length 1 (natG .u32 (canon x_1.1)), AV.sl (canon x_1.2).length 1 (natG .u32 (canon x_1.2))] ∧ fits x_1.1 ∧ fits x_1.2) fun n => .all (fun (p : Nat) => p = n.1 * n.2) fun n_1 => .leaf (.loop (Prod.fst (lps K85 0)) (Prod.snd (lps K85 0)) [(0, .sl (canon x).length 1 (natG .u32 (canon x))), (1, .sl (canon y).length 1 (natG .u32 (canon y))), (4, .nils), (8, .int .u32 (Int.tdiv (1000000000 : Int) ((↑(List.getD (canon y) (Int.toNat ((↑(canon y).length : Int) - (1 : Int))) 0) : Int) + (1 : Int)))), (9, .int .i64 (↑(canon y).length : Int)), (10, .osl 1 1 0 (canon n_1).length), (11, .undef), (12, .undef), (13, .undef), (15, .undef), (151, .undef), (152, .undef)] [.arr 1 1 (zf 1 [.int .u32 (Int.tdiv (1000000000 : Int) ((↑(List.getD (canon y) (Int.toNat ((↑(canon y).length : Int) - (1 : Int))) 0) : Int) + (1 : Int)))]), .arr (List.length (canon n.1) + List.length (canon n.2)) 1 (natG .u32 (padN (List.length (canon n.1) + List.length (canon n.2)) n_1))])))))))))) (by kernel_rfl) ?_
 simp only [Tree.holds, ze, inR, lo, hi]
 refine ⟨(x, y), ⟨by simp [za], by simp only [fits]; omega, by simp only [fits]; omega⟩, ⟨_, rfl⟩, ?_⟩
 rintro c rfl
 have hyl : 0 < (canon y).length := qY (n := 0) (by simp; omega)
 refine ⟨fun hlt => ?_, fun hge => ⟨fun h1 => ⟨by omega, fun _ => ?_⟩, fun hn => ?_⟩⟩
 ·have hxy : x < y := by
   simp only [cmp3, decide_eq_true_eq] at hlt
   rcases Nat.lt_or_ge x y with h | h
   ·exact h
   ·rw [if_neg (by omega)] at hlt; split at hlt <;> omega
  rw [Nat.div_eq_of_lt hxy, Nat.mod_eq_of_lt hxy] at hq
  refine RetR.out0 hq (fun h => by cases h) ?_
  simp [resV, exp2, exp1, exp0, ren0, eqA2, eqL1, magS, natS, zL, za]
 ·have h1 : (canon y).length = 1 := by simp at h1; omega
  have hyd : y = (canon y).getD 0 0 := by
   have := zk y
   obtain ⟨a, ha⟩ := List.length_eq_one_iff.1 h1
   rw [ha] at this ⊢
   simp [val] at this ⊢; omega
  have hyB : y < B := hyd ▸ zK (zj y) 0
  rw [← hyd]
  refine ⟨(x, y), ⟨by simp [za], by simp only [fits]; omega, hy0, hyB⟩, ⟨_, rfl⟩, ?_⟩
  rintro r rfl
  have hm := Nat.mod_lt x hy0
  have hmB : x % y < B := by omega
  refine ⟨[x % y], ⟨rfl, by omega, by omega, kJ _ _, by simpa [dig] using hmB⟩, ⟨_, rfl⟩, ?_⟩
  intro X hX
  have hX : X = x % y := by simpa [val] using hX
  subst hX
  refine RetR.out0 hq (fun h => by cases h) ?_
  simp only [resV, exp2, List.map_cons, List.map_nil, exp1, exp0, ren0, zp, frz1, qM, List.getElem?_cons_zero, if_true, eqA2, eqL1, eqA, eqA0, magS, natS, true_and, and_true]
  exact ⟨za _ _ _, jU hmB⟩
 ·have hn : 2 ≤ (canon y).length := by simp at hn; omega
  obtain ⟨m, hm⟩ : ∃ m, (canon y).length = m + 2 := ⟨(canon y).length - 2, by omega⟩
  have e1 : ((((canon y).length : Nat) : Int) - 1).toNat = m + 1 := by omega
  have hty := zK (zj y) (m + 1)
  have htop : (canon y).getD (m + 1) 0 ≠ 0 := by
   have := qk (canon y) (by rw [qH]; omega)
   rw [qH, hm] at this
   exact this
  have hyv : ∃ r, r < B ^ (m + 1) ∧ y = r + B ^ (m + 1) * (canon y).getD (m + 1) 0 := by
   refine ⟨val ((canon y).take (m + 1)), ?_, ?_⟩
   ·have := zZ (qT (zj y) (m + 1))
    rwa [List.length_take, Nat.min_eq_left (by omega)] at this
   ·have := zr (canon y) (m + 1)
    rwa [List.take_of_length_le (by omega), zk] at this
  rw [e1]
  generalize (canon y).getD (m + 1) 0 = t at hty htop hyv ⊢
  have e2 : Int.tdiv 1000000000 ((t : Int) + 1) = ((B / (t + 1) : Nat) : Int) := by
   have : ((t : Int) + 1) = ((t + 1 : Nat) : Int) := by omega
   rw [this]; rfl
  rw [e2]
  obtain ⟨s, hs⟩ : ∃ s, B / (t + 1) = s := ⟨_, rfl⟩
  obtain ⟨hs0, hs1, hs2⟩ := Y0 (by omega) hs.symm hty
  rw [hs]
  have hsB : s < B := by
   have : s * 2 ≤ s * (t + 1) := Nat.mul_le_mul_left _ (by omega)
   omega
  obtain ⟨r0, hr0, hyr⟩ := hyv
  obtain ⟨hV1, hV2⟩ := scaled hr0 hyr hs0 hs1 hs2
  refine ⟨by omega, fun _ => ⟨by omega, fun _ => ⟨by omega, fun _ => ⟨by omega, fun _ => ⟨by omega, fun _ => ⟨by omega, fun _ => ?_⟩⟩⟩⟩⟩⟩
  have hsl := ZI hs0 hsB
  refine ⟨(x, s), ⟨?_, by simp only [fits]; omega, by simp only [fits]; omega⟩, ⟨_, rfl⟩, ?_⟩
  ·simp only [eqL, eqA, eqA0, true_and, and_true]
   refine ⟨za _ _ _, hsl.symm, ?_⟩
   have := jU hsB
   rwa [hsl] at this
  intro U hU
  simp only at hU ⊢
  rw [hsl]
  have hxs : U < B ^ ((canon x).length + 1) := by
   have h1 := zZ (zj x)
   rw [zk] at h1
   rw [hU, Nat.pow_succ]
   exact Nat.mul_lt_mul'' h1 hsB
  have hUl := zx hxs
  have hcan : (canon x).length + 1 ≥ m + 2 := by
   rcases Nat.lt_or_ge (canon x).length (m + 1) with h | h
   ·exfalso
    have := zX (x := x) (y := y) (by omega)
    simp [cmp3, this] at hge
   ·omega
  have hylx : (canon y).length ≤ (canon x).length := by
   rcases Nat.lt_or_ge (canon x).length (canon y).length with h | h
   ·exfalso
    have := zX h
    simp [cmp3, this] at hge
   ·exact h
  refine zc.loop (ι := IG x U) (fun i => SG x y s i.k) (fun i => [.dead, .arr i.o.length 1 (natG .u32 i.o)]) (fun i => (canon x).length + 1 - i.k)
   ⟨(canon U).length, padN ((canon x).length + 1) U, by rw [QT hUl]; exact hUl, by rw [QT hUl]; omega, qT (U5 _ _) _, by simp [padN, zk]⟩ 0 ?_ ?_ (by kernel_rfl)
  ·exact ⟨by simp [SG, magS, natS, za], by simp [za, QT hUl], by kernel_rfl, Nat.zero_le _⟩
  ·rintro ⟨k, o, hko, hol, hdo, hvo⟩
   refine zc.run hmix WD [0, 1, 4, 8, 9, 10, 11, 12, 13, 15, 151, 152] 400 (T := .ite (decide ((↑k : Int) ≤ (↑(canon x).length : Int))) (.side (0 = 0 ∧ k ≤ o.length ∧ (k + 1) * 4 ≤ 140737488355328) (.leaf (.back 0 [(0, .sl (canon x).length 1 (natG .u32 (canon x))), (1, .sl (canon y).length 1 (natG .u32 (canon y))), (4, .nils), (8, .int .u32 s), (9, .int .i64 (↑(canon y).length : Int)), (10, .osl 1 1 0 (k + 1)), (11, .undef), (12, .undef), (13, .undef), (15, .undef), (151, .undef), (152, .undef)] [.dead, .arr (k + 1) 1 (appG k (natG .u32 o) (zg (zf 1 [.int .u32 0]) 0)), .arr 1 1 (zf 1 [.int .u32 0])]))) (.ex (fun (x : Nat × Nat) => eqL [AV.sl (canon y).length 1 (natG .u32 (canon y)), AV.sl 1 1 (zg (zf 1 [AV.int .u32 s]) 0)] [AV.sl (canon x.1).length 1 (natG .u32 (canon x.1)), AV.sl (canon x.2).length 1 (natG .u32 (canon x.2))] ∧ fits x.1 ∧ fits x.2) fun n => .all (fun (p : Nat) => p = n.1 * n.2) fun n_1 => .side (inR .i64 ((↑k : Int) - (↑(canon y).length : Int))) (.side ((0 : Int) ≤ k - (↑(canon y).length : Int) ∧ (↑k : Int) - (↑(canon y).length : Int) ≤ k - (↑(canon y).length : Int) ∧ inR .i64 ((↑k : Int) - (↑(canon y).length : Int)) ∧ Int.toNat ((↑k : Int) - (↑(canon y).length : Int)) * 4 ≤ 140737488355328) (.side (inR .i64 ((↑k : Int) - (↑(canon y).length : Int))) (.side (inR .i64 ((↑k : Int) - (↑(canon y).length : Int) - (1 : Int))) (.leaf (.loop (Prod.fst (lps (inside K85 0) 0)) (Prod.snd (lps (inside K85 0) 0)) [(0, .sl (canon x).length 1 (natG .u32 (canon x))), (1, .sl (canon y).length 1 (natG .u32 (canon y))), (4, .osl 4 1 0 (Int.toNat ((↑k : Int) - (↑(canon y).length : Int)))), (8, .int .u32 s), (9, .int .i64 (↑(canon y).length : Int)), (10, .osl 1 1 0 k), (11, .osl 3 1 0 (canon n_1).length), (12, .int .i64 ((↑k : Int) - (↑(canon y).length : Int) - (1 : Int))), (13, .undef), (15, .undef), (151, .undef), (152, .undef)] [.dead, .arr o.length 1 (natG .u32 o), .arr 1 1 (zf 1 [.int .u32 s]), .arr (List.length (canon n.1) + List.length (canon n.2)) 1 (natG .u32 (padN (List.length (canon n.1) + List.length (canon n.2)) n_1)), .arr (Int.toNat ((↑k : Int) - (↑(canon y).length : Int))) 1 (xT [.int .u32 0])]))))))) (by kernel_rfl) ?_
   simp only [Tree.holds, ze, inR, lo, hi]
   refine ⟨fun hk => ?_, fun hk => ?_⟩
   ·have hk : k ≤ (canon x).length := by simp at hk; omega
    refine ⟨⟨trivial, hko, by omega⟩, fun _ => ?_⟩
    rw [if_pos trivial]
    have hkl : (o.take k).length = k := by rw [List.length_take]; omega
    refine ⟨⟨k + 1, o.take k ++ [0], by simp [hkl], by simp [hkl]; omega, ?_, ?_⟩, by show _ - (k + 1) < _ - k; omega, by simp [SG, magS, natS, za], ?_, by kernel_rfl, Nat.zero_le _⟩
    ·rw [List.take_of_length_le (by simp [hkl])]; exact j4.2 ⟨hdo, by simp [dig]⟩
    ·rw [List.take_of_length_le (by simp [hkl]), zG]; simp [val, hvo]
    ·refine ⟨trivial, ⟨by simp [hkl], rfl, ?_⟩, trivial⟩
     intro j o' hj ho'
     have : o' = 0 := by omega
     subst this
     simp only [appG, zg, zf, natG]
     by_cases h : j < k
     ·rw [if_pos h]
      simp only [List.getD]
      rw [List.getElem?_append_left (by omega), List.getElem?_take, if_pos h]
     ·have : j = k := by omega
      subst this
      rw [if_neg h]
      simp [List.getElem?_append_right, hkl]
   ·have hk : k = (canon x).length + 1 := by simp at hk; omega
    have hok : o.length = (canon x).length + 1 := by omega
    rw [List.take_of_length_le (by omega)] at hdo hvo
    refine ⟨(y, s), ⟨?_, by simp only [fits]; omega, by simp only [fits]; omega⟩, ⟨_, rfl⟩, ?_⟩
    ·simp only [eqL, eqA, eqA0, true_and, and_true]
     refine ⟨za _ _ _, hsl.symm, ?_⟩
     have := jU hsB
     rwa [hsl] at this
    intro V hV
    simp only at hV ⊢
    rw [hsl]
    rw [← hV] at hV1 hV2
    have hVl : (canon V).length = m + 2 := by
     have h1 := zx hV1
     have h2 : B ^ (m + 1) ≤ V := by
      have : B ^ (m + 1 + 1) = B ^ (m + 1) * B := Nat.pow_succ ..
      rw [this] at hV2
      have : B ^ (m + 1) * 2 ≤ B ^ (m + 1) * B := Nat.mul_le_mul_left _ (by decide)
      omega
     have := qY h2
     omega
    have hV0 : 0 < V := by
     rcases Nat.eq_zero_or_pos V with h | h
     ·rw [h, zL] at hVl; simp at hVl
     ·exact h
    have eq0 : ((k : Int) - ((canon y).length : Int)).toNat = k - (canon y).length := by omega
    rw [eq0]
    refine ⟨by omega, fun _ => ⟨by omega, fun _ => ⟨by omega, fun _ => ⟨by omega, fun _ => ?_⟩⟩⟩⟩
    have hqe : U / V = x / y ∧ U % V = x % y * s := by
     rw [hU, hV]
     exact ⟨Nat.mul_div_mul_right _ _ hs0, Nat.mul_mod_mul_right _ _ _⟩
    refine zc.loop (ι := ID x y V U) (fun i => SD y s V i.u.length i.q.length i.j) (fun i => HD y V i.u i.q) (fun i => i.j)
     ⟨o, List.replicate (k - (canon y).length) 0, k - (canon y).length, hok, by simp; omega, by simp, hdo, q6 _, by simp [val, hvo], ?_⟩ 0 ?_ ?_ (by kernel_rfl)
    ·rw [hvo]
     have h1 : U * 2 ≤ x * B := by
      rw [hU, Nat.mul_assoc]
      refine Nat.mul_le_mul_left _ ?_
      have : s * 2 ≤ s * (t + 1) := Nat.mul_le_mul_left _ (by omega)
      omega
     have h2 : x < B ^ (canon x).length := by have := zZ (zj x); rwa [zk] at this
     have h3 : B ^ (m + 1 + 1) * B ^ (k - (canon y).length) ≤ 2 * V * B ^ (k - (canon y).length) := Nat.mul_le_mul_right _ hV2
     rw [← Nat.pow_add, show m + 1 + 1 + (k - (canon y).length) = (canon x).length + 1 by omega, Nat.pow_succ] at h3
     have h4 : x * B < B ^ (canon x).length * B := Nat.mul_lt_mul_of_pos_right h2 (by decide)
     rw [Nat.mul_assoc] at h3
     omega
    ·refine ⟨?_, ?_, by kernel_rfl, Nat.zero_le _⟩
     ·simp [SD, hVl, hm, hok, hk, za]; omega
     ·simp [HD, za, yq]
    ·rintro ⟨u, q, j, hul, hql, hjq, hdu, hdq, heq, hlt⟩
     rcases j with _ | i
     ·refine zc.run hmix WD [0, 1, 4, 8, 9, 10, 11, 12, 13, 15, 151, 152] 400 (T := .ite false (.side (inR .i64 ((-1 : Int) + (↑(canon y).length : Int))) (.side ((0 : Int) ≤ (-1 : Int) + (↑(canon y).length : Int) ∧ (-1 : Int) + (↑(canon y).length : Int) < u.length) (.side (inR .u64 (↑(List.getD u (0 + Int.toNat ((-1 : Int) + (↑(canon y).length : Int))) 0) : Int)) (.side (inR .i64 ((-1 : Int) + (↑(canon y).length : Int))) (.side (inR .i64 ((-1 : Int) + (↑(canon y).length : Int) - (1 : Int))) (.side ((0 : Int) ≤ (-1 : Int) + (↑(canon y).length : Int) - (1 : Int) ∧ (-1 : Int) + (↑(canon y).length : Int) - (1 : Int) < u.length) (.side (inR .u64 (↑(List.getD u (0 + Int.toNat ((-1 : Int) + (↑(canon y).length : Int) - (1 : Int))) 0) : Int)) (.side (inR .i64 ((-1 : Int) + (↑(canon y).length : Int))) (.side (inR .i64 ((-1 : Int) + (↑(canon y).length : Int) - (2 : Int))) (.side ((0 : Int) ≤ (-1 : Int) + (↑(canon y).length : Int) - (2 : Int) ∧ (-1 : Int) + (↑(canon y).length : Int) - (2 : Int) < u.length) (.side (inR .u64 (↑(List.getD u (0 + Int.toNat ((-1 : Int) + (↑(canon y).length : Int) - (2 : Int))) 0) : Int)) (.side (inR .i64 ((↑(canon y).length : Int) - (1 : Int))) (.side ((0 : Int) ≤ (↑(canon y).length : Int) - (1 : Int) ∧ (↑(canon y).length : Int) - (1 : Int) < (↑(List.length (canon V)) : Int)) (.side (inR .u64 (↑(List.getD (padN (List.length (canon y) + 1) V) (0 + Int.toNat ((↑(canon y).length : Int) - (1 : Int))) 0) : Int)) (.side (inR .i64 ((↑(canon y).length : Int) - (2 : Int))) (.side ((0 : Int) ≤ (↑(canon y).length : Int) - (2 : Int) ∧ (↑(canon y).length : Int) - (2 : Int) < (↑(List.length (canon V)) : Int)) (.side (inR .u64 (↑(List.getD (padN (List.length (canon y) + 1) V) (0 + Int.toNat ((↑(canon y).length : Int) - (2 : Int))) 0) : Int)) (.ex (fun (x : D5) => eqL [AV.int .u64 (↑(List.getD u (0 + Int.toNat ((-1 : Int) + (↑(canon y).length : Int))) 0) : Int), AV.int .u64 (↑(List.getD u (0 + Int.toNat ((-1 : Int) + (↑(canon y).length : Int) - (1 : Int))) 0) : Int), AV.int .u64 (↑(List.getD u (0 + Int.toNat ((-1 : Int) + (↑(canon y).length : Int) - (2 : Int))) 0) : Int), AV.int .u64 (↑(List.getD (padN (List.length (canon y) + 1) V) (0 + Int.toNat ((↑(canon y).length : Int) - (1 : Int))) 0) : Int), AV.int .u64 (↑(List.getD (padN (List.length (canon y) + 1) V) (0 + Int.toNat ((↑(canon y).length : Int) - (2 : Int))) 0) : Int)] [AV.int .u64 (↑(D5.t x) : Int), AV.int .u64 (↑(D5.u x) : Int), AV.int .u64 (↑(D5.v x) : Int), AV.int .u64 (↑(D5.y x) : Int), AV.int .u64 (↑(D5.z x) : Int)] ∧ D5.t x ≤ D5.y x ∧ D5.u x < 1000000000 ∧ D5.v x < 1000000000 ∧ D5.y x < 1000000000 ∧ D5.z x < 1000000000 ∧ 1000000000 ≤ 2 * D5.y x) fun n => .all (fun (n_1 : Nat) => n_1 = qC (D5.v n) (D5.y n) (D5.z n) 2 ((D5.t n * 1000000000 + D5.u n) / D5.y n) ((D5.t n * 1000000000 + D5.u n) % D5.y n)) fun n => .side (inR .u32 (↑n : Int)) (.ex (fun (u : List Nat) => u.length = 1 ∧ 1 ≤ 1 ∧ 1 < 4611686018427387904 ∧ eqG 1 1 (zf 1 [AV.int .u32 n]) (natG .u32 u) ∧ dig (List.take 1 (List.drop 0 u))) fun n_1 => .all (fun (x : Nat) => x = val (List.take 1 (List.drop 0 n_1))) fun n_2 => .ex (fun (x : Nat × Nat) => eqL [AV.sl (List.length (canon V)) 1 (zg (natG .u32 (padN (List.length (canon y) + 1) V)) 0), AV.sl (canon n_2).length 1 (zg (zf 1 [AV.int .u32 n]) 0)] [AV.sl (canon x.1).length 1 (natG .u32 (canon x.1)), AV.sl (canon x.2).length 1 (natG .u32 (canon x.2))] ∧ fits x.1 ∧ fits x.2) fun n_3 => .all (fun (p : Nat) => p = n_3.1 * n_3.2) fun n_4 => .side (inR .i64 ((-1 : Int) + (↑(canon y).length : Int))) (.side (inR .i64 ((-1 : Int) + (↑(canon y).length : Int) + (1 : Int))) (.side ((0 : Int) ≤ (-1 : Int) ∧ (-1 : Int) ≤ (-1 : Int) + (↑(canon y).length : Int) + (1 : Int) ∧ (-1 : Int) + (↑(canon y).length : Int) + (1 : Int) ≤ u.length) (.ex (fun (u_1 : List Nat) => u_1.length = u.length ∧ 0 + (Int.toNat ((-1 : Int) + (↑(canon y).length : Int) + (1 : Int)) - 0) ≤ u.length ∧ Int.toNat ((-1 : Int) + (↑(canon y).length : Int) + (1 : Int)) - 0 < 4611686018427387904 ∧ eqG u.length 1 (natG .u32 u) (natG .u32 u_1) ∧ dig (List.take (Int.toNat ((-1 : Int) + (↑(canon y).length : Int) + (1 : Int)) - 0) (List.drop 0 u_1))) fun n_5 => .all (fun (x : Nat) => x = val (List.take (Int.toNat ((-1 : Int) + (↑(canon y).length : Int) + (1 : Int)) - 0) (List.drop 0 n_5))) fun n_6 => .ex (fun (x : Nat × Nat) => eqL [AV.sl (canon n_6).length 1 (zg (natG .u32 u) 0), AV.sl (canon n_4).length 1 (zg (natG .u32 (padN (List.length (canon n_3.1) + List.length (canon n_3.2)) n_4)) 0)] [AV.sl (canon x.1).length 1 (natG .u32 (canon x.1)), AV.sl (canon x.2).length 1 (natG .u32 (canon x.2))] ∧ fits x.1 ∧ fits x.2) fun n_7 => .all (fun (r : Int) => r = cmp3 n_7.1 n_7.2) fun n_8 => .ite (decide (n_8 < 0)) (.side (inR .u64 ((↑n : Int) - (1 : Int))) (.side (inR .u32 ((↑n : Int) - (1 : Int))) (.ex (fun (u : List Nat) => u.length = 1 ∧ 1 ≤ 1 ∧ 1 < 4611686018427387904 ∧ eqG 1 1 (zf 1 [AV.int .u32 ((↑n : Int) - (1 : Int))]) (natG .u32 u) ∧ dig (List.take 1 (List.drop 0 u))) fun n_9 => .all (fun (x : Nat) => x = val (List.take 1 (List.drop 0 n_9))) fun n_10 => .ex (fun (x : Nat × Nat) => eqL [AV.sl (List.length (canon V)) 1 (zg (natG .u32 (padN (List.length (canon y) + 1) V)) 0), AV.sl (canon n_10).length 1 (zg (zf 1 [AV.int .u32 ((↑n : Int) - (1 : Int))]) 0)] [AV.sl (canon x.1).length 1 (natG .u32 (canon x.1)), AV.sl (canon x.2).length 1 (natG .u32 (canon x.2))] ∧ fits x.1 ∧ fits x.2) fun n_11 => .all (fun (p : Nat) => p = n_11.1 * n_11.2) fun n_12 => .side (inR .i64 ((-1 : Int) + (↑(canon y).length : Int))) (.side (inR .i64 ((-1 : Int) + (↑(canon y).length : Int) + (1 : Int))) (.side ((0 : Int) ≤ (-1 : Int) ∧ (-1 : Int) ≤ (-1 : Int) + (↑(canon y).length : Int) + (1 : Int) ∧ (-1 : Int) + (↑(canon y).length : Int) + (1 : Int) ≤ u.length) (.ex (fun (u_1 : List Nat) => u_1.length = u.length ∧ 0 + (Int.toNat ((-1 : Int) + (↑(canon y).length : Int) + (1 : Int)) - 0) ≤ u.length ∧ Int.toNat ((-1 : Int) + (↑(canon y).length : Int) + (1 : Int)) - 0 < 4611686018427387904 ∧ eqG u.length 1 (natG .u32 u) (natG .u32 u_1) ∧ dig (List.take (Int.toNat ((-1 : Int) + (↑(canon y).length : Int) + (1 : Int)) - 0) (List.drop 0 u_1))) fun n_13 => .all (fun (x : Nat) => x = val (List.take (Int.toNat ((-1 : Int) + (↑(canon y).length : Int) + (1 : Int)) - 0) (List.drop 0 n_13))) fun n_14 => .ex (fun (x : Nat × Nat) => eqL [AV.sl (canon n_14).length 1 (zg (natG .u32 u) 0), AV.sl (canon n_12).length 1 (zg (natG .u32 (padN (List.length (canon n_11.1) + List.length (canon n_11.2)) n_12)) 0)] [AV.sl (canon x.1).length 1 (natG .u32 (canon x.1)), AV.sl (canon x.2).length 1 (natG .u32 (canon x.2))] ∧ fits x.1 ∧ x.2 ≤ x.1) fun n_15 => .all (fun (d : Nat) => d = n_15.1 - n_15.2) fun n_16 => .side (inR .i64 ((↑(canon y).length : Int) + (1 : Int))) (.leaf (.loop (Prod.fst (lps (inside (inside K85 0) 0) 0)) (Prod.snd (lps (inside (inside K85 0) 0) 0)) [(0, .undef), (1, .undef), (4, .osl 4 1 0 q.length), (8, .int .u32 s), (9, .int .i64 (↑(canon y).length : Int)), (10, .osl 1 1 0 u.length), (11, .osl 3 1 0 (List.length (canon V))), (12, .int .i64 (-1 : Int)), (13, .int .u64 ((↑n : Int) - (1 : Int))), (15, .sl (canon n_16).length 1 (natG .u32 (canon n_16))), (151, .int .i64 ((↑(canon y).length : Int) + (1 : Int))), (152, .int .i64 0)] [.dead, .arr u.length 1 (natG .u32 u), .dead, .arr (List.length (canon y) + 1) 1 (natG .u32 (padN (List.length (canon y) + 1) V)), .arr q.length 1 (natG .u32 q), .arr 1 1 (zf 1 [.int .u32 n]), .arr (List.length (canon n_3.1) + List.length (canon n_3.2)) 1 (natG .u32 (padN (List.length (canon n_3.1) + List.length (canon n_3.2)) n_4)), .arr 1 1 (zf 1 [.int .u32 ((↑n : Int) - (1 : Int))]), .arr (List.length (canon n_11.1) + List.length (canon n_11.2)) 1 (natG .u32 (padN (List.length (canon n_11.1) + List.length (canon n_11.2)) n_12))])))))))) (.side (inR .i64 ((-1 : Int) + (↑(canon y).length : Int))) (.side (inR .i64 ((-1 : Int) + (↑(canon y).length : Int) + (1 : Int))) (.side ((0 : Int) ≤ (-1 : Int) ∧ (-1 : Int) ≤ (-1 : Int) + (↑(canon y).length : Int) + (1 : Int) ∧ (-1 : Int) + (↑(canon y).length : Int) + (1 : Int) ≤ u.length) (.ex (fun (u_1 : List Nat) => u_1.length = u.length ∧ 0 + (Int.toNat ((-1 : Int) + (↑(canon y).length : Int) + (1 : Int)) - 0) ≤ u.length ∧ Int.toNat ((-1 : Int) + (↑(canon y).length : Int) + (1 : Int)) - 0 < 4611686018427387904 ∧ eqG u.length 1 (natG .u32 u) (natG .u32 u_1) ∧ dig (List.take (Int.toNat ((-1 : Int) + (↑(canon y).length : Int) + (1 : Int)) - 0) (List.drop 0 u_1))) fun n_9 => .all (fun (x : Nat) => x = val (List.take (Int.toNat ((-1 : Int) + (↑(canon y).length : Int) + (1 : Int)) - 0) (List.drop 0 n_9))) fun n_10 => .ex (fun (x : Nat × Nat) => eqL [AV.sl (canon n_10).length 1 (zg (natG .u32 u) 0), AV.sl (canon n_4).length 1 (zg (natG .u32 (padN (List.length (canon n_3.1) + List.length (canon n_3.2)) n_4)) 0)] [AV.sl (canon x.1).length 1 (natG .u32 (canon x.1)), AV.sl (canon x.2).length 1 (natG .u32 (canon x.2))] ∧ fits x.1 ∧ x.2 ≤ x.1) fun n_11 => .all (fun (d : Nat) => d = n_11.1 - n_11.2) fun n_12 => .side (inR .i64 ((↑(canon y).length : Int) + (1 : Int))) (.leaf (.loop (Prod.fst (lps (inside (inside K85 0) 0) 0)) (Prod.snd (lps (inside (inside K85 0) 0) 0)) [(0, .undef), (1, .undef), (4, .osl 4 1 0 q.length), (8, .int .u32 s), (9, .int .i64 (↑(canon y).length : Int)), (10, .osl 1 1 0 u.length), (11, .osl 3 1 0 (List.length (canon V))), (12, .int .i64 (-1 : Int)), (13, .int .u64 n), (15, .sl (canon n_12).length 1 (natG .u32 (canon n_12))), (151, .int .i64 ((↑(canon y).length : Int) + (1 : Int))), (152, .int .i64 0)] [.dead, .arr u.length 1 (natG .u32 u), .dead, .arr (List.length (canon y) + 1) 1 (natG .u32 (padN (List.length (canon y) + 1) V)), .arr q.length 1 (natG .u32 q), .arr 1 1 (zf 1 [.int .u32 n]), .arr (List.length (canon n_3.1) + List.length (canon n_3.2)) 1 (natG .u32 (padN (List.length (canon n_3.1) + List.length (canon n_3.2)) n_4))])))))))))))))))))))))))))))) (.ex (fun (u_1 : List Nat) => u_1.length = u.length ∧ 0 + u.length ≤ u.length ∧ u.length < 4611686018427387904 ∧ eqG u.length 1 (natG .u32 u) (natG .u32 u_1) ∧ dig (List.take u.length (List.drop 0 u_1))) fun n => .all (fun (x : Nat) => x = val (List.take u.length (List.drop 0 n))) fun n => .ex (fun (x : Nat × Nat) => eqL [AV.sl (canon n).length 1 (zg (natG .u32 u) 0), AV.int .u32 s] [AV.sl (canon x.1).length 1 (natG .u32 (canon x.1)), AV.int .u32 x.2] ∧ fits x.1 ∧ 0 < x.2 ∧ x.2 < 1000000000) fun n => .all (fun (r : Nat × Nat) => r = (n.1 / n.2, n.1 % n.2)) fun n => .ex (fun (u : List Nat) => u.length = q.length ∧ 0 + q.length ≤ q.length ∧ q.length < 4611686018427387904 ∧ eqG q.length 1 (natG .u32 q) (natG .u32 u) ∧ dig (List.take q.length (List.drop 0 u))) fun n_1 => .all (fun (x : Nat) => x = val (List.take q.length (List.drop 0 n_1))) fun n_2 => .leaf (.ret [.osl 4 1 0 (canon n_2).length, .sl (canon n.1).length 1 (natG .u32 (canon n.1))] [.dead, .arr u.length 1 (natG .u32 u), .dead, .arr (List.length (canon y) + 1) 1 (natG .u32 (padN (List.length (canon y) + 1) V)), .arr q.length 1 (natG .u32 q)]))) (by kernel_rfl) ?_
      simp only [Tree.holds, ze, inR, lo, hi]
      refine ⟨fun hj => by simp at hj, fun hj => ?_⟩
      simp only [List.drop_zero, Nat.pow_zero, Nat.mul_one] at heq hlt
      have hdiv : U / V = val q ∧ U % V = val u := by
       rw [heq]
       exact ⟨by rw [Nat.mul_add_div hV0, Nat.div_eq_of_lt hlt, Nat.add_zero], by rw [Nat.mul_add_mod, Nat.mod_eq_of_lt hlt]⟩
      have hqv : val q = x / y := by rw [← hdiv.1, hqe.1]
      have huv : val u = x % y * s := by rw [← hdiv.2, hqe.2]
      refine ⟨u, ⟨rfl, by omega, by omega, za _ _ _, by simpa using hdu⟩, ⟨_, rfl⟩, ?_⟩
      intro X hX
      have hX : X = x % y * s := by simpa [huv] using hX
      have hw : val ((u.drop 0).take u.length) = X := by simp [huv, hX]
      have hXl := jd (k := .u32) (u := u) (off := 0) (n := u.length) (by simpa using hdu) hw
      have hmy := Nat.mod_lt x hy0
      have hXlen : (canon X).length ≤ u.length := by
       refine zx ?_
       rw [hX, ← huv]; exact zZ hdu
      refine ⟨(X, s), ⟨?_, by simp only [fits]; omega, hs0, hsB⟩, ⟨_, rfl⟩, ?_⟩
      ·simp only [eqL, eqA, eqA0, true_and, and_true]
       exact hXl
      rintro r rfl
      have hXs : X / s = x % y := by rw [hX]; exact Nat.mul_div_cancel _ hs0
      simp only [hXs]
      refine ⟨q, ⟨rfl, by omega, by omega, za _ _ _, by simpa using hdq⟩, ⟨_, rfl⟩, ?_⟩
      intro Y hY
      have hY : Y = x / y := by simpa [hqv] using hY
      subst hY
      refine RetR.out0 hq (fun h => by cases h) ?_
      have hw2 : val ((q.drop 0).take q.length) = x / y := by simp [hqv]
      simp only [resV, exp2, List.map_cons, List.map_nil, exp1, exp0, ren0, zp, frz1, qM, List.getElem?_cons_zero, List.getElem?_cons_succ, if_true, eqA2, eqL1, eqA, eqA0, magS, natS, true_and, and_true]
      exact ⟨jd (by simpa using hdq) hw2, za _ _ _⟩
     ·exact Jm hm hx hs0 hsB hV1 hV2 hVl hV0 hul hql hjq hdu hdq heq hlt
end Go.Proofs.Try
end

/- The integers' texts: reading. -/
section
set_option maxRecDepth 100000
open Go Go.Sx Go.Proofs Go.Nov
namespace Go.Proofs.Try
attribute [local simp] eqKV eqA eqA0 eqH eqB eqL eqL0
noncomputable def K94 : List Go.Sx.Item := [.code (Try.f94.body.getD .skip)]
def Ky : Ctr := ctrT false false (fun s : List UInt8 => [.str s]) (fun _ => []) (fun _ => True) (fun _ (_ : Unit) => True) (fun s _ => (.fn 122 [] [.ptr 0 0], [.box [.str s]]))
theorem X7 : zd Try.prog 111 Ky := by
 refine jH (fn := Try.f111) (c := Try.f111.body.getD .skip) rfl rfl rfl (fun h => by cases h) fun s hp O w0 σ0 Q hl hq => ?_
 have h0 : σ0 = [] := List.length_eq_zero_iff.1 (by simpa using hl)
 subst h0
 refine zc.run hmix z7 [0] 400 (T := .leaf (.ret [.fn 122 [] [.ptr 0 0]] [.box [.str s]])) (by kernel_rfl) ?_
 simp only [Tree.holds, ze]
 exact RetR.out1 0 (by simp) (hq () trivial) (fun h => by cases h) (by simp [resV, exp2, exp1, exp0, zp, ren0, eqA2]) (by simp [expB, exp1, exp0, ren0])
noncomputable def G3 : Nat → Option Ctr := fun f => if f = 111 then some (Ky) else if f = 97 then some (yR) else none
theorem Ql : ∀ g c, G3 g = some c → zd Try.prog g c := okIf X7 (okIf QV (zu))
def KR : KV := [(2, .ptr 0 0), (3, .ptr 1 0), (5, .undef), (6, .undef), (16, .fn 122 [] [.ptr 2 0]), (17, .undef), (19, .undef), (20, .undef)]
def HR (neg : Bool) (b : List UInt8) : List Nat → Heap
 | [] => [.box [.bool false, .nils], .box [.bool neg, .nils], .box [.str b]]
 | d :: o => [.box [.bool false, .nils], .box [.bool neg, .osl 4 1 0 (o.length + 1)], .box [.str b], .arr 1 1 (natG .u32 [d]), .arr (o.length + 1) 1 (natG .u32 (d :: o))]
theorem Vv (s : ByteArray) : ∀ e, e ≤ s.size → val ((chunks s e).map decB) = numD (s.data.toList.take e) := by
 intro e
 induction e using Nat.strongRecOn with
 | _ e ih =>
  intro he
  rcases Nat.eq_zero_or_pos e with h | h
  ·subst h; simp [wP, val, numD]
  ·rw [wK s h, List.map_cons, val, ih (e - 9) (by omega) (by omega)]
   have hl : s.data.toList.length = s.size := by rw [Array.length_toList]; rfl
   have h1 : s.data.toList.take e = s.data.toList.take (e - 9) ++ (s.data.toList.take e).drop (e - 9) := by
    conv => lhs; rw [← List.take_append_drop (e - 9) (s.data.toList.take e)]
    rw [List.take_take, Nat.min_eq_left (by omega)]
   rw [h1, yT, decB, xB, Nat.add_comm, Nat.mul_comm]
   congr 1
   rcases Nat.lt_or_ge e 9 with h9 | h9
   ·rw [show e - 9 = 0 by omega]; simp [numD]
   ·congr 1
    have : ((s.data.toList.take e).drop (e - 9)).length = 9 := by simp; omega
    rw [this]
theorem VR (s : ByteArray) (hd : allD s.data.toList) : ∀ e, e ≤ s.size → ∀ x ∈ chunks s e, x.size ≤ 9 ∧ allD x.data.toList := by
 intro e
 induction e using Nat.strongRecOn with
 | _ e ih =>
  intro he x hx
  rcases Nat.eq_zero_or_pos e with h | h
  ·subst h; simp [wP] at hx
  ·rw [wK s h] at hx
   rcases List.mem_cons.1 hx with rfl | hx
   ·refine ⟨by rw [ByteArray.size_extract]; omega, ?_⟩
    rw [xB]
    intro c hc
    exact hd c (List.mem_of_mem_take (List.mem_of_mem_drop hc))
   ·exact ih (e - 9) (by omega) (by omega) x hx
theorem uK (s : ByteArray) : ∀ e, (chunks s e).length ≤ e := by
 intro e
 induction e using Nat.strongRecOn with
 | _ e ih =>
  rcases Nat.eq_zero_or_pos e with h | h
  ·subst h; simp [wP]
  ·rw [wK s h, List.length_cons]
   have := ih (e - 9) (by omega)
   omega
abbrev Grp : Type := {x : ByteArray // x.size ≤ 9 ∧ allD x.data.toList}
def Yu : Ctr := ctrP false (fun p : Bool × List UInt8 => [.str (sgn p.1 p.2)]) (fun p => allD p.2 ∧ p.2 ≠ [] ∧ p.2.length ≤ 1000000) (fun p r => r = numD p.2) (fun p r => (.agg [.bool p.1, magS r], []))
def SR (x : List UInt8) (v i : Nat) : KV := [(2, .ptr 0 0), (3, .ptr 1 0), (5, .str x), (6, .int .u32 (v : Int)), (16, .undef), (17, .undef), (19, .int .i64 (x.length : Int)), (20, .int .i64 (i : Int))]
theorem XH {O : Nat → Prop} {W : World} {σ1 : List SE} (l : Nat) (neg : Bool) (b : List UInt8) (o : List Nat) (ho : o.length ≤ 1000000) (y : List UInt8) (hxd : allD y) (hx9 : y.length ≤ 9) (X : Prop) (Hx : Heap) :
  qA (some l) Try.prog (bare Try.f94) O 3 W σ1 (fun d kv' h' => LeK 3 Try.f94.ntmps [] h' [] (HR neg b (o ++ [numD y]))) (fun _ h' => X ∧ LeK 3 Try.f94.ntmps [] h' [] Hx) (.code (.loop (lps (roundOf K94 0) 0).1) :: (lps (roundOf K94 0) 0).2)
   (mk Try.f94.ntmps [(2, .ptr 0 0), (3, .ptr 1 0), (5, .str y), (6, .int .u32 0), (16, .fn 122 [] [.ptr 2 0]), (17, .str y), (19, .int .i64 (y.length : Int)), (20, .int .i64 0)] (HR neg b o)) := by
 refine zc.loop (ι := {i : Nat // i ≤ y.length}) (fun i => SR y (numD (y.take i.1)) i.1) (fun _ => HR neg b o) (fun i => y.length - i.1) ⟨0, Nat.zero_le _⟩ 1 ?_ ?_ (by kernel_rfl)
 ·refine ⟨by simp [SR, numD], ?_, ?_, ?_⟩
  ·cases o <;> simp [HR, za]
  ·cases o <;> kernel_rfl
  ·cases o <;> simp [HR]
 ·rintro ⟨i, hil⟩
  have hbound : numD (y.take i) < 1000000000 := by
   have h1 := ux (l := y.take i) fun c hc => hxd c (List.mem_of_mem_take hc)
   have h2 : 10 ^ (y.take i).length ≤ 10 ^ 9 := Nat.pow_le_pow_right (by decide) (by rw [List.length_take]; omega)
   have h4 : (10 : Nat) ^ 9 = 1000000000 := by decide
   omega
  have hnext : ∀ h : i < y.length, numD (y.take (i + 1)) = numD (y.take i) * 10 + ((y.getD i 0).toNat - 48) := by
   intro h; rw [WN y i h, Xp]
  have hdig : i < y.length → 48 ≤ (y.getD i 0).toNat ∧ (y.getD i 0).toNat ≤ 57 := by
   intro h
   have := hxd (y.getD i 0) (by simp [List.getD, h])
   exact this
  have hnb : i < y.length → numD (y.take (i + 1)) < 1000000000 := by
   intro h
   have h1 := ux (l := y.take (i + 1)) fun c hc => hxd c (List.mem_of_mem_take hc)
   have h2 : 10 ^ (y.take (i + 1)).length ≤ 10 ^ 9 := Nat.pow_le_pow_right (by decide) (by rw [List.length_take]; omega)
   have h4 : (10 : Nat) ^ 9 = 1000000000 := by decide
   omega
  obtain ⟨v, hv⟩ : ∃ v, numD (y.take i) = v := ⟨_, rfl⟩
  simp only [hv] at hbound hnext ⊢
  have ei : ((i : Int) + 1) = ((i + 1 : Nat) : Int) := by omega
  cases o with
  | nil =>
   refine zc.run hmix Ql [2, 3, 5, 6, 16, 17, 19, 20] 400 (T := .ite (decide ((↑i : Int) < y.length)) (.side (inR .u32 ((↑v : Int) * (10 : Int))) (.side ((0 : Int) ≤ i ∧ (↑i : Int) < y.length) (.side (inR .u8 ((↑(UInt8.toNat (List.getD y (Int.toNat (↑i : Int)) (0 : UInt8))) : Int) - (48 : Int))) (.side (inR .u32 ((↑(UInt8.toNat (List.getD y (Int.toNat (↑i : Int)) (0 : UInt8))) : Int) - (48 : Int))) (.side (inR .u32 ((↑v : Int) * (10 : Int) + ((↑(UInt8.toNat (List.getD y (Int.toNat (↑i : Int)) (0 : UInt8))) : Int) - (48 : Int)))) (.side (inR .i64 ((↑i : Int) + (1 : Int))) (.leaf (.back 1 [(2, .ptr 0 0), (3, .ptr 1 0), (5, .str y), (6, .int .u32 ((↑v : Int) * (10 : Int) + ((↑(UInt8.toNat (List.getD y (Int.toNat (↑i : Int)) (0 : UInt8))) : Int) - (48 : Int)))), (16, .undef), (17, .undef), (19, .int .i64 y.length), (20, .int .i64 ((↑i : Int) + (1 : Int)))] [.box [.bool false, .nils], .box [.bool neg, .nils], .box [.str b]])))))))) (.side (4 ≤ 140737488355328) (.leaf (.back 0 [(2, .ptr 0 0), (3, .ptr 1 0), (5, .str y), (6, .int .u32 v), (16, .undef), (17, .undef), (19, .int .i64 y.length), (20, .int .i64 i)] [.box [.bool false, .nils], .box [.bool neg, .osl 4 1 0 1], .box [.str b], .arr 1 1 (zf 1 [.int .u32 v]), .arr 1 1 (zg (zf 1 [.int .u32 v]) 0)])))) (by kernel_rfl) ?_
   simp only [Tree.holds, ze, inR, lo, hi, Int.toNat_natCast, ei]
   refine ⟨fun hlt => ?_, fun hge => ?_⟩
   ·have hlt : i < y.length := by simp at hlt; omega
    have h1 := hdig hlt
    have h2 := hnb hlt
    have h3 := hnext hlt
    generalize (y.getD i 0).toNat = c at h1 h3 ⊢
    iterate 6 refine ⟨by omega, fun _ => ?_⟩
    rw [if_pos trivial]
    refine ⟨⟨i + 1, hlt⟩, by show y.length - (i + 1) < y.length - i; omega, ?_, by simp [HR], by kernel_rfl, by simp [HR]⟩
    simp [SR, h3]; omega
   ·have hge : i = y.length := by simp at hge; omega
    subst hge
    rw [List.take_length] at hv
    refine ⟨by omega, fun _ => ?_⟩
    rw [if_neg (by decide), hv]
    refine ⟨by simp, ?_, by kernel_rfl, by simp [HR]⟩
    simp only [List.nil_append, HR]
    refine ⟨by simp, by simp, by simp, ⟨rfl, rfl, kJ _ _⟩, ⟨rfl, rfl, ?_⟩, trivial⟩
    exact fun j o hj ho => by simpa [zg] using kJ .u32 v j o hj ho
  | cons d o =>
   refine zc.run hmix Ql [2, 3, 5, 6, 16, 17, 19, 20] 400 (T := .ite (decide ((↑i : Int) < y.length)) (.side (inR .u32 ((↑v : Int) * (10 : Int))) (.side ((0 : Int) ≤ i ∧ (↑i : Int) < y.length) (.side (inR .u8 ((↑(UInt8.toNat (List.getD y (Int.toNat (↑i : Int)) (0 : UInt8))) : Int) - (48 : Int))) (.side (inR .u32 ((↑(UInt8.toNat (List.getD y (Int.toNat (↑i : Int)) (0 : UInt8))) : Int) - (48 : Int))) (.side (inR .u32 ((↑v : Int) * (10 : Int) + ((↑(UInt8.toNat (List.getD y (Int.toNat (↑i : Int)) (0 : UInt8))) : Int) - (48 : Int)))) (.side (inR .i64 ((↑i : Int) + (1 : Int))) (.leaf (.back 1 [(2, .ptr 0 0), (3, .ptr 1 0), (5, .str y), (6, .int .u32 ((↑v : Int) * (10 : Int) + ((↑(UInt8.toNat (List.getD y (Int.toNat (↑i : Int)) (0 : UInt8))) : Int) - (48 : Int)))), (16, .undef), (17, .undef), (19, .int .i64 y.length), (20, .int .i64 ((↑i : Int) + (1 : Int)))] [.box [.bool false, .nils], .box [.bool neg, .osl 4 1 0 (o.length + 1)], .box [.str b], .arr 1 1 (natG .u32 [d]), .arr (o.length + 1) 1 (natG .u32 (d :: o))])))))))) (.side (0 = 0 ∧ o.length + 1 ≤ o.length + 1 ∧ (o.length + 1 + 1) * 4 ≤ 140737488355328) (.leaf (.back 0 [(2, .ptr 0 0), (3, .ptr 1 0), (5, .str y), (6, .int .u32 v), (16, .undef), (17, .undef), (19, .int .i64 y.length), (20, .int .i64 i)] [.box [.bool false, .nils], .box [.bool neg, .osl 4 1 0 (o.length + 1 + 1)], .box [.str b], .arr 1 1 (natG .u32 [d]), .arr (o.length + 1 + 1) 1 (appG (o.length + 1) (natG .u32 (d :: o)) (zg (zf 1 [.int .u32 v]) 0)), .arr 1 1 (zf 1 [.int .u32 v])])))) (by kernel_rfl) ?_
   simp only [Tree.holds, ze, inR, lo, hi, Int.toNat_natCast, ei]
   refine ⟨fun hlt => ?_, fun hge => ?_⟩
   ·have hlt : i < y.length := by simp at hlt; omega
    have h1 := hdig hlt
    have h2 := hnb hlt
    have h3 := hnext hlt
    generalize (y.getD i 0).toNat = c at h1 h3 ⊢
    iterate 6 refine ⟨by omega, fun _ => ?_⟩
    rw [if_pos trivial]
    refine ⟨⟨i + 1, hlt⟩, by show y.length - (i + 1) < y.length - i; omega, ?_, by simp [HR, za], by kernel_rfl, by simp [HR]⟩
    simp [SR, h3]; omega
   ·have hge : i = y.length := by simp at hge; omega
    subst hge
    rw [List.take_length] at hv
    refine ⟨⟨trivial, Nat.le_refl _, by simp only [List.length_cons] at ho; omega⟩, fun _ => ?_⟩
    rw [if_neg (by decide), hv]
    refine ⟨by simp, ?_, by kernel_rfl, by simp [HR]⟩
    simp only [List.cons_append, HR]
    refine ⟨by simp, by simp, by simp, ⟨rfl, rfl, za _ _ _⟩, ⟨by simp, rfl, ?_⟩, trivial⟩
    have := uL (k := .u32) (l := d :: o) (v := ((v : Nat) : Int)) (by omega)
    simpa using this
theorem VD {O : Nat → Prop} {W : World} {σ1 : List SE} (l : Nat) (neg : Bool) (b : List UInt8) (o : List Nat) (ho : o.length ≤ 1000000) (x : Grp) (X : Prop) (Hx : Heap) :
  qA (some l) Try.prog (bare Try.f94) O 3 W σ1 (fun d kv' h' => LeK 3 Try.f94.ntmps [] h' [] (HR neg b (o ++ [decB x.1]))) (fun _ h' => X ∧ LeK 3 Try.f94.ntmps [] h' [] Hx) (roundOf K94 0) (mk Try.f94.ntmps ((5, .str x.1.data.toList) :: (17, .str x.1.data.toList) :: KR) (HR neg b o)) := by
 obtain ⟨x, hx9, hxd⟩ := x
 simp only
 have hxl : x.data.toList.length = x.size := by rw [Array.length_toList]; rfl
 have hdB : decB x = numD x.data.toList := rfl
 rw [hdB]
 generalize x.data.toList = y at hxd hxl
 have core : qA (some l) Try.prog (bare Try.f94) O 3 W σ1 (fun d kv' h' => LeK 3 Try.f94.ntmps [] h' [] (HR neg b (o ++ [numD y]))) (fun _ h' => X ∧ LeK 3 Try.f94.ntmps [] h' [] Hx) (.code (.loop (lps (roundOf K94 0) 0).1) :: (lps (roundOf K94 0) 0).2)
   (mk Try.f94.ntmps [(2, .ptr 0 0), (3, .ptr 1 0), (5, .str y), (6, .int .u32 0), (16, .fn 122 [] [.ptr 2 0]), (17, .str y), (19, .int .i64 (y.length : Int)), (20, .int .i64 0)] (HR neg b o)) := by
  exact XH l neg b o ho y hxd (by omega) X Hx
 cases o with
 | nil =>
  refine zc.run hmix Ql [2, 3, 5, 6, 16, 17, 19, 20] 400 (T := .leaf (.loop (Prod.fst (lps (roundOf K94 0) 0)) (Prod.snd (lps (roundOf K94 0) 0)) [(2, .ptr 0 0), (3, .ptr 1 0), (5, .str y), (6, .int .u32 0), (16, .fn 122 [] [.ptr 2 0]), (17, .str y), (19, .int .i64 y.length), (20, .int .i64 0)] [.box [.bool false, .nils], .box [.bool neg, .nils], .box [.str b]])) (by kernel_rfl) ?_
  simp only [Tree.holds, ze]
  exact core
 | cons d o =>
  refine zc.run hmix Ql [2, 3, 5, 6, 16, 17, 19, 20] 400 (T := .leaf (.loop (Prod.fst (lps (roundOf K94 0) 0)) (Prod.snd (lps (roundOf K94 0) 0)) [(2, .ptr 0 0), (3, .ptr 1 0), (5, .str y), (6, .int .u32 0), (16, .fn 122 [] [.ptr 2 0]), (17, .str y), (19, .int .i64 y.length), (20, .int .i64 0)] [.box [.bool false, .nils], .box [.bool neg, .osl 4 1 0 (o.length + 1)], .box [.str b], .arr 1 1 (natG .u32 [d]), .arr (o.length + 1) 1 (natG .u32 (d :: o))])) (by kernel_rfl) ?_
  simp only [Tree.holds, ze]
  exact core
theorem Y7 (neg : Bool) (b : List UInt8) (o : List Nat) : ∀ x ∈ HR neg b o, alive x := by
 cases o with
 | nil => simp [HR, alive]
 | cons d o => simp [HR, alive]
theorem Xj {O : Nat → Prop} {w0 : World} {Q : AV × Heap → Prop} (neg : Bool) (b : List UInt8) (hb : allD b) (hb0 : b ≠ []) (hbl : b.length ≤ 1000000) (hq : Q (.agg [.bool neg, magS (numD b)], [])) :
  zc Try.prog Try.f94 O 0 w0 [] (fun _ _ _ => False) (RetR Yu 0 Q) (.code (rfs K94 0).1 :: (rfs K94 0).2) (mk Try.f94.ntmps KR (HR neg b [])) := by
 let s : ByteArray := ⟨b.toArray⟩
 have hsl : s.data.toList = b := rfl
 have hss : s.size = b.length := by simp [s, ByteArray.size]
 refine zc.range (tg := 16) (tp := 17) (td := 5) (α := Grp) (by kernel_rfl) (cap := [.ptr 2 0]) (enters_of Try.func122 (by kernel_rfl) rfl) (fun x => .str x.1.data.toList) (fun pre => HR neg b (pre.map fun x => decB x.1)) (fun _ => []) (fun _ => False) (fun xs => xs.map (·.1) = chunks s s.size) (fun pre => pre.map (·.1) <+: chunks s s.size) (chunks s s.size).length 3
  (by kernel_rfl) (by decide +kernel) (by decide +kernel) (fun x t c y h => by cases h) ⟨by simp [KR], by simp [HR], by kernel_rfl, Nat.zero_le _⟩ (by kernel_rfl) (Nat.zero_le _) (fun pre => Y7 _ _ _) (fun pre c hc => by cases hc) ?_ ?_ ?_ (fun _ _ h => h.elim)
 ·
  intro w σ a hm vb hvb
  simp only [RepL] at hvb
  obtain ⟨v, r, rfl, hv, rfl⟩ := hvb
  simp only [Rep] at hv
  obtain ⟨e, ad, he, had, rfl⟩ := hv
  have hcell : ∀ (W : World) (σ' : List SE) (o : List Nat), HRep (Go.Sx.Own O σ') W σ' (HR neg b o) → ∀ e' ad, σ'[2]? = some e' → e'.ad = some ad → W.cell? ⟨ad.block, ad.off + 0, none⟩ = some (.string s) := by
   intro W σ' o hp e' ad he' had'
   have hb2 : (HR neg b o)[2]? = some (.box [.str b]) := by cases o <;> rfl
   obtain ⟨ad', vs, el, h1, h2, h3, h4⟩ := hp.blk 2 e' _ he' hb2
   rw [had'] at h1; cases h1
   simp only [RepL, Rep] at h4
   obtain ⟨v, r, rfl, rfl, rfl⟩ := h4
   simp [World.cell?, h3, h2, s]
  refine ⟨fun W => W.cell? ⟨ad.block, ad.off + 0, none⟩ = some (.string s), fun x => .string x.1, ?_, ?_, ?_⟩
  ·exact Try.ZH (fun x => x.size ≤ 9 ∧ allD x.data.toList) ⟨ad.block, ad.off + 0, none⟩ s (VR s (hsl ▸ hb) s.size (Nat.le_refl _)) (by omega) w (hcell w σ [] hm.hp e ad he had)
  ·intro pre W σ' hM
   refine ⟨?_, fun x => by simp [Rep]⟩
   have ht := hM.tm 16
   have h16 : (mk Try.f94.ntmps KR (HR neg b (pre.map fun x => decB x.1))).tmps.getD 16 .undef = .fn 122 [] [.ptr 2 0] := by kernel_rfl
   have ht0 := hm.tm 16
   have h160 : (mk Try.f94.ntmps KR (HR neg b (([] : List Grp).map fun x => decB x.1))).tmps.getD 16 .undef = .fn 122 [] [.ptr 2 0] := by kernel_rfl
   rw [h16] at ht
   rw [h160] at ht0
   simp only [TRep, Rep, RepL] at ht ht0
   obtain ⟨va, vb', h1, _, v, r, h2, ⟨e1, ad1, h3, h4, h5⟩, h6⟩ := ht
   obtain ⟨va', vb2, g1, _, v', r', g2, ⟨e2, ad2, g3, g4, g5⟩, g6⟩ := ht0
   rw [he] at g3; cases g3
   rw [had] at g4; cases g4
   rw [g1] at h1
   simp only [Value.func.injEq] at h1
   have h7 : vb2 = vb' := by
    have := h1.2.2
    simpa using this
   rw [g2, h2, g5, h5] at h7
   simp only [List.cons.injEq, Value.pointer.injEq, Option.some.injEq] at h7
   have h8 := hcell W σ' _ hM.hp e1 ad1 h3 h4
   rw [← h7.1] at h8
   exact h8
  ·intro W l o o' hl ho hoc hK
   exact WY (grownBy_putObj' W l o') (fun r e => by cases e; exact ⟨o, ho, hoc⟩) hK
 ·
  intro l pre x hlen W σ1
  have hpl : (pre.map fun x => decB x.1).length ≤ 1000000 := by
   have := uK s s.size
   simp; omega
  have := VD (O := O) (W := W) (σ1 := σ1) l neg b (pre.map fun x => decB x.1) hpl x False []
  simp only [List.map_append, List.map_cons, List.map_nil]
  exact this
 ·
  intro xs hxs
  have ho : xs.map (fun x => decB x.1) = (chunks s s.size).map decB := by rw [← hxs, List.map_map]; rfl
  have hv : val (xs.map fun x => decB x.1) = numD b := by
   rw [ho, Vv s s.size (Nat.le_refl _), List.take_of_length_le (by rw [Array.length_toList]; exact Nat.le_refl _)]
  have hdg : dig (xs.map fun x => decB x.1) := by
   intro d hd
   obtain ⟨x, _, rfl⟩ := List.mem_map.1 hd
   exact UE x.2.2 x.2.1
  have hpos : 0 < s.size := by rw [hss]; exact List.length_pos_iff.2 hb0
  have hle : (xs.map fun x => decB x.1).length ≤ 1000000 := by
   rw [ho, List.length_map]
   have := uK s s.size
   omega
  have hne : xs.map (fun x => decB x.1) ≠ [] := by
   rw [ho, wK s hpos]; simp
  generalize xs.map (fun x => decB x.1) = l at hv hdg hle hne
  cases l with
  | nil => exact absurd rfl hne
  | cons d o =>
   simp only [List.length_cons] at hle
   refine zc.run hmix Ql [2, 3, 5, 6, 16, 17, 19, 20] 400 (T := .ex (fun (u : List Nat) => u.length = o.length + 1 ∧ 0 + (o.length + 1) ≤ o.length + 1 ∧ o.length + 1 < 4611686018427387904 ∧ eqG (o.length + 1) 1 (natG .u32 (d :: o)) (natG .u32 u) ∧ dig (List.take (o.length + 1) (List.drop 0 u))) fun n => .all (fun (x : Nat) => x = val (List.take (o.length + 1) (List.drop 0 n))) fun n => .leaf (.ret [.agg [.bool neg, .osl 4 1 0 (canon n).length]] [.box [.bool neg, .osl 4 1 0 (canon n).length], .box [.bool neg, .osl 4 1 0 (canon n).length], .box [.str b], .arr 1 1 (natG .u32 [d]), .arr (o.length + 1) 1 (natG .u32 (d :: o))])) (by kernel_rfl) ?_
   simp only [Tree.holds, ze]
   have htk : (List.take (o.length + 1) (List.drop 0 (d :: o))) = d :: o := by simp
   refine ⟨d :: o, ⟨rfl, by omega, by omega, za _ _ _, by rw [htk]; exact hdg⟩, ⟨_, rfl⟩, ?_⟩
   intro X hX
   have hX : X = numD b := by rw [htk, hv] at hX; exact hX
   subst hX
   refine RetR.out0 hq (fun h => by cases h) ?_
   simp only [resV, exp2, exp1, List.map_cons, List.map_nil, exp0, ren0, zp, frz1, qM, List.getElem?_cons_zero, List.getElem?_cons_succ, if_true, eqA2, eqA, eqL0, eqA0, magS, natS, true_and, and_true]
   exact jd (u := d :: o) (off := 0) (n := o.length + 1) (by simpa using hdg) (by simpa using hv)
theorem zak : zd Try.prog 94 Yu := by
 refine zm (fn := Try.f94) (c := Try.f94.body.getD .skip) rfl rfl rfl fun p hp O w0 Q hq => ?_
 obtain ⟨neg, b⟩ := p
 obtain ⟨hb, hb0, hbl⟩ := hp
 replace hq := hq _ rfl
 simp only at hb hb0 hbl hq
 obtain ⟨s, hs⟩ : ∃ s, sgn neg b = s := ⟨_, rfl⟩
 simp only [hs]
 refine zc.run hmix Ql [2, 3, 5, 6, 16, 17, 19, 20] 400 (T := .side ((0 : Int) ≤ 0 ∧ (0 : Int) < s.length) (.ite (decide ((↑(UInt8.toNat (List.getD s 0 (0 : UInt8))) : Int) = 45)) (.side ((0 : Int) ≤ 1 ∧ (1 : Int) ≤ s.length) (.ex (fun (x : List UInt8) => eqL [AV.str (List.drop 1 (List.take s.length s))] [AV.str x] ∧ eqH [] [] ∧ 0 = 0 ∧ True) fun n => .all (fun (x : Unit) => True) fun n_1 => .leaf (.range (Prod.fst (rfs K94 0)) (Prod.snd (rfs K94 0)) [(2, .ptr 0 0), (3, .ptr 1 0), (5, .undef), (6, .undef), (16, .fn 122 [] [.ptr 2 0]), (17, .undef), (19, .undef), (20, .undef)] [.box [.bool false, .nils], .box [.bool true, .nils], .box [.str n]]))) (.ex (fun (x : List UInt8) => eqL [AV.str s] [AV.str x] ∧ eqH [] [] ∧ 0 = 0 ∧ True) fun n => .all (fun (x : Unit) => True) fun n_1 => .leaf (.range (Prod.fst (rfs K94 0)) (Prod.snd (rfs K94 0)) [(2, .ptr 0 0), (3, .ptr 1 0), (5, .undef), (6, .undef), (16, .fn 122 [] [.ptr 2 0]), (17, .undef), (19, .undef), (20, .undef)] [.box [.bool false, .nils], .box [.bool false, .nils], .box [.str n]])))) (by kernel_rfl) ?_
 subst hs
 have hmain := Xj (O := O) (w0 := w0) neg b hb hb0 hbl hq
 obtain ⟨c, b', rfl⟩ := List.exists_cons_of_ne_nil hb0
 have hc := hb c (by simp)
 simp only [Tree.holds, ze]
 cases neg with
 | true =>
  simp only [sgn, if_true]
  refine ⟨by simp; omega, fun _ => ⟨fun _ => ⟨by simp; omega, fun _ => ?_⟩, fun h => by simp at h⟩⟩
  refine ⟨c :: b', ⟨by simp, by simp, by simp⟩, ⟨(), trivial⟩, fun _ _ => hmain⟩
 | false =>
  simp only [sgn, Bool.false_eq_true, if_false]
  refine ⟨by simp, fun _ => ⟨fun h => ?_, fun _ => ?_⟩⟩
  ·simp at h; omega
  ·refine ⟨c :: b', ⟨by simp, by simp, by simp⟩, ⟨(), trivial⟩, fun _ _ => hmain⟩
end Go.Proofs.Try
end

/- The integers' texts: writing. -/
section
set_option maxRecDepth 100000
open Go Go.Sx Go.Proofs Go.Nov
namespace Go.Proofs.Try
attribute [local simp] eqKV eqA eqA0 eqH eqB eqL eqL0
noncomputable def K101 : List Go.Sx.Item := [.code (Try.f101.body.getD .skip)]
noncomputable def K86 : List Go.Sx.Item := [.code (Try.f86.body.getD .skip)]
def j1 (l : List Nat) (n i : Nat) : List Nat := (List.range l.length).map fun p => if p < n ∧ (p < i ∨ n - i ≤ p) then l.getD (n - 1 - p) 0 else l.getD p 0
theorem yu (l : List Nat) (n i : Nat) : (j1 l n i).length = l.length := by simp [j1]
theorem Qw {l : List Nat} {n i p : Nat} (h : p < l.length) : (j1 l n i).getD p 0 = if p < n ∧ (p < i ∨ n - i ≤ p) then l.getD (n - 1 - p) 0 else l.getD p 0 := by
 simp [j1, List.getD, h]
theorem WI (l : List Nat) (n : Nat) : j1 l n 0 = l := by
 apply List.ext_getElem (by simp [j1])
 intro p h1 h2
 simp only [j1, List.getElem_map, List.getElem_range]
 rw [if_neg (by omega)]; simp [h2]
theorem Vn {l : List Nat} {n i : Nat} (hn : n ≤ l.length) (hi2 : i < n - 1 - i) : ((j1 l n i).set i ((j1 l n i).getD (n - 1 - i) 0)).set (n - 1 - i) ((j1 l n i).getD i 0) = j1 l n (i + 1) := by
 rw [Qw (by omega), Qw (by omega), if_neg (by omega), if_neg (by omega)]
 apply List.ext_getElem (by simp [j1])
 intro p h1 h2
 rw [yu] at h2
 simp only [List.getElem_set, j1, List.getElem_map, List.getElem_range]
 by_cases ha : n - 1 - i = p
 ·rw [if_pos ha, if_pos (by omega)]; congr 1; omega
 ·rw [if_neg ha]
  by_cases hb : i = p
  ·subst hb; rw [if_pos rfl, if_pos (by omega)]
  ·rw [if_neg hb]
   by_cases hc : p < n ∧ (p < i ∨ n - i ≤ p)
   ·rw [if_pos hc, if_pos (by omega)]
   ·rw [if_neg hc, if_neg (by omega)]
theorem Xv {l : List Nat} {n i : Nat} (hn : n ≤ l.length) (hi2 : n - 1 - i ≤ i) : j1 l n i = (l.take n).reverse ++ l.drop n := by
 apply List.ext_getElem (by simp [j1]; omega)
 intro p h1 h2
 rw [yu] at h1
 simp only [j1, List.getElem_map, List.getElem_range]
 have hl : (l.take n).reverse.length = n := by simp; omega
 by_cases ha : p < n
 ·rw [List.getElem_append_left (by omega), List.getElem_reverse, List.getElem_take]
  have e : (l.take n).length - 1 - p = n - 1 - p := by simp; omega
  simp only [e]
  by_cases hc : p < i ∨ n - i ≤ p
  ·rw [if_pos ⟨ha, hc⟩]; simp [show n - 1 - p < l.length by omega]
  ·rw [if_neg (fun h => hc h.2)]
   have : n - 1 - p = p := by omega
   simp [this, h1]
 ·rw [if_neg (fun h => ha h.1), List.getElem_append_right (by omega)]
  simp only [hl, List.getElem_drop]
  have : n + (p - n) = p := by omega
  simp [this, h1]
def uQ : Ctr := ctrT false false (fun p : List Nat × Nat => [.osl 0 1 0 p.2]) (fun p => [.arr p.1.length 1 (natG .u8 p.1)]) (fun p => p.2 ≤ p.1.length ∧ p.1.length < 2 ^ 62) (fun _ (_ : Unit) => True) (fun p _ => (.tup [], [.arr p.1.length 1 (natG .u8 ((p.1.take p.2).reverse ++ p.1.drop p.2))]))
def SV (n i : Nat) : KV := [(0, .osl 0 1 0 n), (2, .int .i64 (i : Int)), (3, .int .i64 ((n : Int) - 1 - i))]
theorem WO : zd Try.prog 101 uQ := by
 refine jH (fn := Try.f101) (c := Try.f101.body.getD .skip) rfl rfl rfl (fun h => by cases h) fun p hp O w0 σ0 Q hl0 hq => ?_
 obtain ⟨l, n⟩ := p
 obtain ⟨hn, hl⟩ := hp
 replace hq := hq () trivial
 simp only at hn hl hq
 refine zc.run hmix z7 [0, 2, 3] 400 (T := Tree.side (inR IntKind.i64 ((↑n : Int) - (1 : Int))) (Tree.leaf (jS.loop (Prod.fst (lps K101 (0 : Nat))) (Prod.snd (lps K101 (0 : Nat))) [((0 : Nat), AV.osl (0 : Nat) (1 : Nat) (0 : Nat) n), ((2 : Nat), AV.int IntKind.i64 (0 : Int)), ((3 : Nat), AV.int IntKind.i64 ((↑n : Int) - (1 : Int)))] [Blk.arr (List.length l) (1 : Nat) (natG IntKind.u8 l)]))) (by kernel_rfl) ?_
 simp only [Tree.holds, ze, inR, lo, hi]
 refine ⟨by omega, fun _ => ?_⟩
 refine zc.loop (ι := {i : Nat // i ≤ n}) (fun i => SV n i.1) (fun i => [.arr l.length 1 (natG .u8 (j1 l n i.1))]) (fun i => n - i.1) ⟨0, Nat.zero_le _⟩ 0 ?_ ?_ (by kernel_rfl)
 ·exact ⟨by simp [SV], by simp [WI, za], by kernel_rfl, Nat.le_refl _⟩
 ·rintro ⟨i, hin⟩
  obtain ⟨u, hu⟩ : ∃ u, j1 l n i = u := ⟨_, rfl⟩
  have hul : u.length = l.length := by rw [← hu, yu]
  simp only [hu, ← hul]
  refine zc.run hmix z7 [0, 2, 3] 400 (T := Tree.ite (decide ((↑i : Int) < (↑n : Int) - (1 : Int) - (↑i : Int))) (Tree.side ((0 : Int) ≤ (↑n : Int) - (1 : Int) - (↑i : Int) ∧ (↑n : Int) - (1 : Int) - (↑i : Int) < (↑n : Int)) (Tree.side ((0 : Int) ≤ (↑i : Int) ∧ (↑i : Int) < (↑n : Int)) (Tree.side ((0 : Int) ≤ (↑i : Int) ∧ (↑i : Int) < (↑n : Int)) (Tree.side ((0 : Int) ≤ (↑n : Int) - (1 : Int) - (↑i : Int) ∧ (↑n : Int) - (1 : Int) - (↑i : Int) < (↑n : Int)) (Tree.side (inR IntKind.i64 ((↑i : Int) + (1 : Int))) (Tree.side (inR IntKind.i64 ((↑n : Int) - (1 : Int) - (↑i : Int) - (1 : Int))) (Tree.leaf (jS.back (0 : Nat) [((0 : Nat), AV.osl (0 : Nat) (1 : Nat) (0 : Nat) n), ((2 : Nat), AV.int IntKind.i64 ((↑i : Int) + (1 : Int))), ((3 : Nat), AV.int IntKind.i64 ((↑n : Int) - (1 : Int) - (↑i : Int) - (1 : Int)))] [Blk.arr (List.length u) (1 : Nat) (updG (updG (natG IntKind.u8 u) ((0 : Nat) + Int.toNat (↑i : Int)) (0 : Nat) [AV.int IntKind.u8 (↑(List.getD u ((0 : Nat) + Int.toNat ((↑n : Int) - (1 : Int) - (↑i : Int))) (0 : Nat)) : Int)]) ((0 : Nat) + Int.toNat ((↑n : Int) - (1 : Int) - (↑i : Int))) (0 : Nat) [AV.int IntKind.u8 (↑(List.getD u ((0 : Nat) + Int.toNat (↑i : Int)) (0 : Nat)) : Int)])])))))))) (Tree.leaf (jS.ret [] [Blk.arr (List.length u) (1 : Nat) (natG IntKind.u8 u)]))) (by kernel_rfl) ?_
  simp only [Tree.holds, ze, inR, lo, hi, Int.toNat_natCast]
  refine ⟨fun hlt => ?_, fun hge => ?_⟩
  ·have hlt : i < n - 1 - i := by simp at hlt; omega
   have ej : ((n : Int) - 1 - i).toNat = n - 1 - i := by omega
   rw [ej]
   iterate 6 refine ⟨by omega, fun _ => ?_⟩
   rw [if_pos trivial]
   have hs := Vn (l := l) hn hlt
   rw [hu] at hs
   refine ⟨⟨i + 1, by omega⟩, by show n - (i + 1) < n - i; omega, by simp [SV]; omega, ?_, by kernel_rfl, Nat.le_refl _⟩
   rw [← hs]
   refine ⟨⟨rfl, rfl, ?_⟩, trivial⟩
   have h1 := wO (k := .u8) (l := u) (v := (u.getD (n - 1 - i) 0 : Nat)) (i := i) (by omega) (by omega)
   have h2 := wO (k := .u8) (l := u.set i (u.getD (n - 1 - i) 0)) (v := (u.getD i 0 : Nat)) (i := n - 1 - i) (by omega) (by simp; omega)
   simp only [List.length_set, Int.toNat_natCast] at h1 h2
   refine ye ?_ h2
   intro p o hp ho
   have := h1 p o hp ho
   simp only [updG, Nat.zero_add] at this ⊢
   split
   ·rfl
   ·exact this
  ·have hge : n - 1 - i ≤ i := by simp at hge; omega
   have hr := Xv (l := l) hn hge
   rw [hu] at hr
   refine ⟨[0], rfl, by simp, by simp, by simp [uQ, ctrT], .tup [], _, zN (by simp [resV, exp2, eqA2, eqL1]), ?_, rfl, hq⟩
   simp [expH, expB, hr, za]
   omega
def wT (neg : Bool) (x : Nat) : Blk := .box [.bool neg, magS x]
def SW (x i n : Nat) : KV := [(1, .ptr 0 0), (4, .osl 1 1 0 n), (6, .undef), (12, magS x), (13, .int .i64 ((canon x).length : Int)), (14, .int .i64 (i : Int)), (18, .undef)]
def SW2 (x i n g k : Nat) : KV := [(1, .ptr 0 0), (4, .osl 1 1 0 n), (6, .int .u32 (g : Int)), (12, magS x), (13, .int .i64 ((canon x).length : Int)), (14, .int .i64 (i : Int)), (18, .int .i64 (k : Int))]
noncomputable def G4 : Nat → Option Ctr := fun f => if f = 101 then some (uQ) else none
theorem Ka : ∀ g c, G4 g = some c → zd Try.prog g c := okIf WO (zu)
theorem Za (k : IntKind) (l : List Nat) (n : Nat) (hn : n ≤ l.length) : vU n (zg (natG k l) 0) = (l.take n).map UInt8.ofNat := by
 apply List.ext_getElem (by simp [vU]; omega)
 intro j h1 h2
 have hj : j < n := by simpa [vU] using h1
 simp [vU, zg, natG, Sx.byteOf, show j < l.length by omega]
def wb (x i : Nat) : List Nat := (decs (9 * i) (val ((canon x).take i))).map (48 + ·)
theorem QM (x i : Nat) : (wb x i).length = 9 * i := by simp [wb, xW]
theorem K9 (i : Nat) : B ^ i = 10 ^ (9 * i) := by rw [Nat.pow_mul]
theorem UF {x i : Nat} (h : i < (canon x).length) : wb x i ++ (decs 9 ((canon x).getD i 0)).map (48 + ·) = wb x (i + 1) := by
 have h1 := zZ (qT (zj x) i)
 rw [List.length_take, Nat.min_eq_left (by omega), K9] at h1
 simp only [wb]
 rw [← List.map_append, ← ua _ _ _ _ h1, zr, K9]
 rfl
theorem V9 (x : Nat) : wb x (canon x).length = (dec x).map (48 + ·) ++ List.replicate (9 * (canon x).length - (dec x).length) 48 := by
 have h : x < 10 ^ (9 * (canon x).length) := by
  have := zZ (zj x)
  rwa [zk, K9] at this
 simp only [wb, List.take_length, zk, Uw h, Ten.padN, List.map_append, List.map_replicate, dec]
def WH : Ctr := ctrP true (fun p : Bool × Nat => [.agg [.bool p.1, magS p.2]]) (fun p => (canon p.2).length < 1000000) (fun p r => r = wr p.1 p.2) (fun _ r => (.tup [.str r.1, .int .i64 r.2], []))
theorem KJ {O : Nat → Prop} {w0 : World} {Q : AV × Heap → Prop} {Hs : Nat → KV → Heap → Prop} (neg : Bool) (x : Nat) (hx : (canon x).length < 1000000) (hx0 : x ≠ 0) (hq : Q (.tup [.str (wr neg x).1, .int .i64 (wr neg x).2], [])) (b : List Nat) (hb : b = wb x (canon x).length) :
  zc Try.prog Try.f86 O 0 w0 [] Hs (RetR WH 0 Q) (.code (.loop (lps (inside K86 0) 1).1) :: (lps (inside K86 0) 1).2) (mk Try.f86.ntmps (SW x (canon x).length b.length) [wT neg x, .arr b.length 1 (natG .u8 b)]) := by
 have hdl := US hx0
 have hle : (dec x).length ≤ 9 * (canon x).length := by
  have := zZ (zj x)
  rw [zk, K9] at this
  exact WR this
 have hbl : b.length = 9 * (canon x).length := by rw [hb, QM]
 have hget : ∀ p, p < b.length → b.getD p 0 = 48 + (dec x).getD p 0 := by
  intro p hp
  rw [hb, V9]
  by_cases h : p < (dec x).length
  ·rw [Zm (by simpa using h), Xm (z := 0) h]
  ·rw [u4 (by simpa using Nat.le_of_not_lt h), YW (by simp; omega), Ye (Nat.le_of_not_lt h)]
 have htake : b.take (dec x).length = (dec x).map (48 + ·) := by
  rw [hb, V9, List.take_append_of_le_length (by simp), List.take_of_length_le (by simp)]
 refine zc.loop (ι := {n : Nat // (dec x).length ≤ n ∧ n ≤ b.length}) (fun n => SW x (canon x).length n.1) (fun _ => [wT neg x, .arr b.length 1 (natG .u8 b)]) (fun n => n.1) ⟨b.length, by omega, Nat.le_refl _⟩ 0 ?_ ?_ (by kernel_rfl)
 ·exact ⟨by simp [SW, magS, natS, za], by simp [wT, magS, natS, za], by kernel_rfl, Nat.zero_le _⟩
 ·rintro ⟨n, hn1, hn2⟩
  obtain ⟨L, hL⟩ : ∃ L, (canon x).length = L := ⟨_, rfl⟩
  simp only [hL]
  refine zc.run hmix Ka [1, 4, 6, 12, 13, 14, 18] 400 (T := Tree.side (inR IntKind.i64 ((↑n : Int) - (1 : Int))) (Tree.side ((0 : Int) ≤ (↑n : Int) - (1 : Int) ∧ (↑n : Int) - (1 : Int) < (↑n : Int)) (Tree.ite (decide ((↑(List.getD b ((0 : Nat) + Int.toNat ((↑n : Int) - (1 : Int))) (0 : Nat)) : Int) = (48 : Int))) (Tree.side (inR IntKind.i64 ((↑n : Int) - (1 : Int))) (Tree.side ((0 : Int) ≤ (↑n : Int) - (1 : Int) ∧ (↑n : Int) - (1 : Int) ≤ (↑n : Int)) (Tree.leaf (jS.back (0 : Nat) [((1 : Nat), AV.ptr (0 : Nat) (0 : Nat)), ((4 : Nat), AV.osl (1 : Nat) (1 : Nat) (0 : Nat) (Int.toNat ((↑n : Int) - (1 : Int)) - (0 : Nat))), ((6 : Nat), AV.undef), ((12 : Nat), AV.sl (List.length (canon x)) (1 : Nat) (natG IntKind.u32 (canon x))), ((13 : Nat), AV.int IntKind.i64 (↑(List.length (canon x)) : Int)), ((14 : Nat), AV.int IntKind.i64 (↑L : Int)), ((18 : Nat), AV.undef)] [Blk.box [AV.bool neg, AV.sl (List.length (canon x)) (1 : Nat) (natG IntKind.u32 (canon x))], Blk.arr (List.length b) (1 : Nat) (natG IntKind.u8 b)])))) (Tree.ite (decide ((1000 : Int) < (↑n : Int))) (Tree.leaf (jS.ret [AV.str (Array.toList #[]), AV.int IntKind.i64 (14 : Int)] [Blk.box [AV.bool neg, AV.sl (List.length (canon x)) (1 : Nat) (natG IntKind.u32 (canon x))], Blk.arr (List.length b) (1 : Nat) (natG IntKind.u8 b)])) (Tree.ite neg (Tree.side ((0 : Nat) = (0 : Nat) ∧ n ≤ List.length b ∧ (n + (1 : Nat)) * (1 : Nat) ≤ (140737488355328 : Nat)) (Tree.ex (fun (x : List Nat × Nat) => eqL [AV.osl (0 : Nat) (1 : Nat) (0 : Nat) (n + (1 : Nat))] [AV.osl (0 : Nat) (1 : Nat) (0 : Nat) (Prod.snd x)] ∧ eqH [Blk.arr (n + (1 : Nat)) (1 : Nat) (appG n (natG IntKind.u8 b) (zg (zf (1 : Nat) [AV.int IntKind.u8 (45 : Int)]) (0 : Nat)))] [Blk.arr (List.length (Prod.fst x)) (1 : Nat) (natG IntKind.u8 (Prod.fst x))] ∧ (1 : Nat) = (1 : Nat) ∧ Prod.snd x ≤ List.length (Prod.fst x) ∧ List.length (Prod.fst x) < (4611686018427387904 : Nat)) fun (n_1 : List Nat × Nat) => Tree.all (fun (x : Unit) => True) fun (n_2 : Unit) => Tree.side (∀ (j : Nat), j < n + (1 : Nat) → ∃ (b : UInt8), AV.int IntKind.u8 (↑(List.getD (List.reverse (List.take (Prod.snd n_1) (Prod.fst n_1)) ++ List.drop (Prod.snd n_1) (Prod.fst n_1)) ((0 : Nat) + j) (0 : Nat)) : Int) = AV.int IntKind.u8 (↑(UInt8.toNat b) : Int)) (Tree.leaf (jS.ret [AV.str (vU (n + (1 : Nat)) (zg (natG IntKind.u8 (List.reverse (List.take (Prod.snd n_1) (Prod.fst n_1)) ++ List.drop (Prod.snd n_1) (Prod.fst n_1))) (0 : Nat))), AV.int IntKind.i64 (0 : Int)] [Blk.box [AV.bool neg, AV.sl (List.length (canon x)) (1 : Nat) (natG IntKind.u32 (canon x))], Blk.arr (List.length (Prod.fst n_1)) (1 : Nat) (natG IntKind.u8 (List.reverse (List.take (Prod.snd n_1) (Prod.fst n_1)) ++ List.drop (Prod.snd n_1) (Prod.fst n_1))), Blk.arr (1 : Nat) (1 : Nat) (zf (1 : Nat) [AV.int IntKind.u8 (45 : Int)])])))) (Tree.ex (fun (x : List Nat × Nat) => eqL [AV.osl (0 : Nat) (1 : Nat) (0 : Nat) n] [AV.osl (0 : Nat) (1 : Nat) (0 : Nat) (Prod.snd x)] ∧ eqH [Blk.arr (List.length b) (1 : Nat) (natG IntKind.u8 b)] [Blk.arr (List.length (Prod.fst x)) (1 : Nat) (natG IntKind.u8 (Prod.fst x))] ∧ (1 : Nat) = (1 : Nat) ∧ Prod.snd x ≤ List.length (Prod.fst x) ∧ List.length (Prod.fst x) < (4611686018427387904 : Nat)) fun (n_1 : List Nat × Nat) => Tree.all (fun (x : Unit) => True) fun (n_2 : Unit) => Tree.side (∀ (j : Nat), j < n → ∃ (b : UInt8), AV.int IntKind.u8 (↑(List.getD (List.reverse (List.take (Prod.snd n_1) (Prod.fst n_1)) ++ List.drop (Prod.snd n_1) (Prod.fst n_1)) ((0 : Nat) + j) (0 : Nat)) : Int) = AV.int IntKind.u8 (↑(UInt8.toNat b) : Int)) (Tree.leaf (jS.ret [AV.str (vU n (zg (natG IntKind.u8 (List.reverse (List.take (Prod.snd n_1) (Prod.fst n_1)) ++ List.drop (Prod.snd n_1) (Prod.fst n_1))) (0 : Nat))), AV.int IntKind.i64 (0 : Int)] [Blk.box [AV.bool neg, AV.sl (List.length (canon x)) (1 : Nat) (natG IntKind.u32 (canon x))], Blk.arr (List.length (Prod.fst n_1)) (1 : Nat) (natG IntKind.u8 (List.reverse (List.take (Prod.snd n_1) (Prod.fst n_1)) ++ List.drop (Prod.snd n_1) (Prod.fst n_1)))])))))))) (by kernel_rfl) ?_
  have e1 : ((n : Int) - 1).toNat = n - 1 := by omega
  have e2 : 0 + (n - 1) = n - 1 := by omega
  have e3 : n - 1 - 0 = n - 1 := by omega
  simp only [Tree.holds, ze, inR, lo, hi, e1, e2, e3]
  have hg := hget (n - 1) (by omega)
  rw [hg]
  iterate 2 refine ⟨by omega, fun _ => ?_⟩
  refine ⟨fun hz => ?_, fun hnz => ⟨fun hbig => ?_, fun hsm => ?_⟩⟩
  ·have hz : (dec x).getD (n - 1) 0 = 0 := by simp at hz ⊢; omega
   have hne : n ≠ (dec x).length := by
    rintro rfl
    exact za7 hdl hz
   iterate 2 refine ⟨by omega, fun _ => ?_⟩
   rw [if_pos trivial]
   exact ⟨⟨n - 1, by omega, by omega⟩, by show n - 1 < n; omega, by simp [SW, magS, natS, za], by simp [wT, magS, natS, za], by kernel_rfl, Nat.zero_le _⟩
  ·have hn : n = (dec x).length := by
    rcases Nat.lt_or_ge (dec x).length n with h | h
    ·have : (dec x).getD (n - 1) 0 = 0 := by simp [List.getD, List.getElem?_eq_none (show (dec x).length ≤ n - 1 by omega)]
     rw [this] at hnz; simp at hnz
    ·omega
   subst hn
   have hbig : 1000 < (dec x).length := by simp at hbig; omega
   simp only [wr, if_neg hx0, if_pos hbig] at hq
   exact RetR.scal hq rfl rfl
  ·have hn : n = (dec x).length := by
    rcases Nat.lt_or_ge (dec x).length n with h | h
    ·have : (dec x).getD (n - 1) 0 = 0 := by simp [List.getD, List.getElem?_eq_none (show (dec x).length ≤ n - 1 by omega)]
     rw [this] at hnz; simp at hnz
    ·omega
   subst hn
   have hsm : ¬ 1000 < (dec x).length := by simp at hsm; omega
   simp only [wr, if_neg hx0, if_neg hsm] at hq
   have hbyte : ∀ (l : List Nat) (k : Nat), (∀ d ∈ l, d < 256) → ∀ j, j < k → ∃ c : UInt8, AV.int .u8 ((l.getD (0 + j) 0 : Nat) : Int) = .int .u8 (c.toNat : Int) := by
    intro l k hl j hj
    rw [Nat.zero_add]
    have : l.getD j 0 < 256 := by
     by_cases h : j < l.length
     ·have := hl l[j] (List.getElem_mem h)
      simpa [List.getD, h] using this
     ·simp [List.getD, List.getElem?_eq_none (Nat.le_of_not_lt h)]
    refine ⟨UInt8.ofNat (l.getD j 0), ?_⟩
    simp only [AV.int.injEq, true_and]
    rw [UInt8.toNat_ofNat', Nat.mod_eq_of_lt this]
   have hb256 : ∀ d ∈ b, d < 256 := by
    intro d hd
    rw [hb, V9] at hd
    rcases List.mem_append.1 hd with hd | hd
    ·obtain ⟨y, hy, rfl⟩ := List.mem_map.1 hd
     have := Ten.zj x y hy
     simp only [Ten.B] at this
     omega
    ·have := (List.mem_replicate.1 hd).2; omega
   have htx : ((b.take (dec x).length).reverse).map UInt8.ofNat = txt x := by
    rw [htake, txt, if_neg hx0, List.map_reverse, List.map_map]; rfl
   refine ⟨fun hneg => ?_, fun hneg => ?_⟩
   ·subst hneg
    refine ⟨⟨trivial, hn2, by omega⟩, fun _ => ?_⟩
    have hal : (b.take (dec x).length ++ [45]).length = (dec x).length + 1 := by simp; omega
    refine ⟨(b.take (dec x).length ++ [45], (dec x).length + 1), ⟨by simp, ?_, by simp, by simp only [hal]; omega, by simp only [hal]; omega⟩, ⟨(), trivial⟩, fun _ _ => ⟨?_, fun _ => ?_⟩⟩
    ·simp only [eqH, eqB, hal]
     refine ⟨⟨trivial, trivial, ?_⟩, trivial⟩
     intro j o hj ho
     have : o = 0 := by omega
     subst this
     simp only [appG, zg, zf, natG]
     have hl : (b.take (dec x).length).length = (dec x).length := by simp; omega
     by_cases h : j < (dec x).length
     ·rw [if_pos h, Zm (by omega), UR h]
     ·have : j = (dec x).length := by omega
      subst this
      rw [if_neg (by omega), u4 (by omega), hl, Nat.sub_self]
      rfl
    ·refine hbyte _ _ ?_
     intro d hd
     simp only [List.mem_append, List.mem_reverse] at hd
     rcases hd with hd | hd
     ·have := List.mem_of_mem_take hd
      rcases List.mem_append.1 this with h | h
      ·exact hb256 d (List.mem_of_mem_take h)
      ·simp at h; omega
     ·have := List.mem_of_mem_drop hd
      rcases List.mem_append.1 this with h | h
      ·exact hb256 d (List.mem_of_mem_take h)
      ·simp at h; omega
    ·refine RetR.scal hq rfl ?_
     simp only [resV]
     rw [Za _ _ _ (by simp; omega)]
     have ht : List.take ((dec x).length + 1) (b.take (dec x).length ++ [45]) = b.take (dec x).length ++ [45] := List.take_of_length_le (by omega)
     rw [ht, List.take_append_of_le_length (by simp; omega), List.take_of_length_le (by simp; omega), List.reverse_append, List.map_append, htx]
     simp [sgn]
   ·subst hneg
    refine ⟨(b, (dec x).length), ⟨by simp, by simp [za], by simp, hn2, by simp only [hbl]; omega⟩, ⟨(), trivial⟩, fun _ _ => ⟨?_, fun _ => ?_⟩⟩
    ·refine hbyte _ _ ?_
     intro d hd
     simp only [List.mem_append, List.mem_reverse] at hd
     rcases hd with hd | hd
     ·exact hb256 d (List.mem_of_mem_take hd)
     ·exact hb256 d (List.mem_of_mem_drop hd)
    ·refine RetR.scal hq rfl ?_
     simp only [resV]
     have hrl : ((b.take (dec x).length).reverse).length = (dec x).length := by simp; omega
     rw [Za _ _ _ (by rw [List.length_append, hrl]; omega), List.take_append_of_le_length (by omega), List.take_of_length_le (by omega), htx]
     simp [sgn]
theorem YI : zd Try.prog 86 WH := by
 refine zm (fn := Try.f86) (c := Try.f86.body.getD .skip) rfl rfl rfl fun p hp O w0 Q hq => ?_
 obtain ⟨neg, x⟩ := p
 replace hq := hq _ rfl
 simp only at hp hq
 refine zc.run hmix Ka [1, 4, 6, 12, 13, 14, 18] 400 (T := Tree.ite (decide ((↑(List.length (canon x)) : Int) = (0 : Int))) (Tree.leaf (jS.ret [AV.str (Array.toList #[(48 : UInt8)]), AV.int IntKind.i64 (0 : Int)] [Blk.box [AV.bool neg, AV.sl (List.length (canon x)) (1 : Nat) (natG IntKind.u32 (canon x))]])) (Tree.leaf (jS.loop (Prod.fst (lps K86 (0 : Nat))) (Prod.snd (lps K86 (0 : Nat))) [((1 : Nat), AV.ptr (0 : Nat) (0 : Nat)), ((4 : Nat), AV.nils), ((6 : Nat), AV.undef), ((12 : Nat), AV.sl (List.length (canon x)) (1 : Nat) (natG IntKind.u32 (canon x))), ((13 : Nat), AV.int IntKind.i64 (↑(List.length (canon x)) : Int)), ((14 : Nat), AV.int IntKind.i64 (0 : Int)), ((18 : Nat), AV.undef)] [Blk.box [AV.bool neg, AV.sl (List.length (canon x)) (1 : Nat) (natG IntKind.u32 (canon x))]]))) (by kernel_rfl) ?_
 simp only [Tree.holds, ze, inR, lo, hi]
 refine ⟨fun h0 => ?_, fun h0 => ?_⟩
 ·have h0 : x = 0 := by
   rcases Nat.eq_zero_or_pos x with h | h
   ·exact h
   ·have := qY (x := x) (n := 0) (by simp; omega)
    simp at h0; rw [h0] at this; simp at this
  subst h0
  refine RetR.scal hq rfl ?_
  simp [resV, wr]
 ·have hx0 : x ≠ 0 := by
   rintro rfl
   simp [zL] at h0
  refine zc.bear 4 1 (natG .u8 []) (by kernel_rfl) (by decide +kernel) (by kernel_rfl) ?_
  refine zc.loop (ι := {i : Nat // i ≤ (canon x).length}) (fun i => SW x i.1 (wb x i.1).length) (fun i => [wT neg x, .arr (wb x i.1).length 1 (natG .u8 (wb x i.1))]) (fun i => (canon x).length - i.1) ⟨0, Nat.zero_le _⟩ 0 ?_ ?_ (by kernel_rfl)
  ·exact ⟨by simp [Qu, SW, magS, natS, za, QM], by simp [wT, magS, natS, za, QM, eqG], by kernel_rfl, Nat.zero_le _⟩
  ·rintro ⟨i, hil⟩
   obtain ⟨b, hb⟩ : ∃ b, wb x i = b := ⟨_, rfl⟩
   simp only [hb]
   refine zc.run hmix Ka [1, 4, 6, 12, 13, 14, 18] 400 (T := Tree.ite (decide ((↑i : Int) < (↑(List.length (canon x)) : Int))) (Tree.side ((0 : Int) ≤ (↑i : Int) ∧ (↑i : Int) < (↑(List.length (canon x)) : Int)) (Tree.leaf (jS.loop (Prod.fst (lps (inside K86 (0 : Nat)) (0 : Nat))) (Prod.snd (lps (inside K86 (0 : Nat)) (0 : Nat))) [((1 : Nat), AV.ptr (0 : Nat) (0 : Nat)), ((4 : Nat), AV.osl (1 : Nat) (1 : Nat) (0 : Nat) (List.length b)), ((6 : Nat), AV.int IntKind.u32 (↑(List.getD (canon x) (Int.toNat (↑i : Int)) (0 : Nat)) : Int)), ((12 : Nat), AV.sl (List.length (canon x)) (1 : Nat) (natG IntKind.u32 (canon x))), ((13 : Nat), AV.int IntKind.i64 (↑(List.length (canon x)) : Int)), ((14 : Nat), AV.int IntKind.i64 (↑i : Int)), ((18 : Nat), AV.int IntKind.i64 (0 : Int))] [Blk.box [AV.bool neg, AV.sl (List.length (canon x)) (1 : Nat) (natG IntKind.u32 (canon x))], Blk.arr (List.length b) (1 : Nat) (natG IntKind.u8 b)]))) (Tree.leaf (jS.loop (Prod.fst (lps (inside K86 (0 : Nat)) (1 : Nat))) (Prod.snd (lps (inside K86 (0 : Nat)) (1 : Nat))) [((1 : Nat), AV.ptr (0 : Nat) (0 : Nat)), ((4 : Nat), AV.osl (1 : Nat) (1 : Nat) (0 : Nat) (List.length b)), ((6 : Nat), AV.undef), ((12 : Nat), AV.sl (List.length (canon x)) (1 : Nat) (natG IntKind.u32 (canon x))), ((13 : Nat), AV.int IntKind.i64 (↑(List.length (canon x)) : Int)), ((14 : Nat), AV.int IntKind.i64 (↑i : Int)), ((18 : Nat), AV.undef)] [Blk.box [AV.bool neg, AV.sl (List.length (canon x)) (1 : Nat) (natG IntKind.u32 (canon x))], Blk.arr (List.length b) (1 : Nat) (natG IntKind.u8 b)]))) (by kernel_rfl) ?_
   simp only [Tree.holds, ze, inR, lo, hi, Int.toNat_natCast]
   refine ⟨fun hlt => ⟨by simp at hlt; omega, fun _ => ?_⟩, fun hge => ?_⟩
   ·have hlt : i < (canon x).length := by simp at hlt; omega
    obtain ⟨g, hg⟩ : ∃ g, (canon x).getD i 0 = g := ⟨_, rfl⟩
    have hgB : g < 1000000000 := hg ▸ zK (zj x) i
    have hstep := UF hlt
    have hbl : b.length = 9 * i := by rw [← hb, QM]
    rw [hb, hg] at hstep
    rw [hg]
    refine zc.loop (ι := {k : Nat // k ≤ 9}) (fun k => SW2 x i (b ++ (decs k.1 g).map (48 + ·)).length (g / 10 ^ k.1) k.1) (fun k => [wT neg x, .arr (b ++ (decs k.1 g).map (48 + ·)).length 1 (natG .u8 (b ++ (decs k.1 g).map (48 + ·)))]) (fun k => 9 - k.1) ⟨0, Nat.zero_le _⟩ 1 ?_ ?_ (by kernel_rfl)
    ·exact ⟨by simp [SW2, magS, natS, za, decs], by simp [wT, magS, natS, za, decs], by kernel_rfl, Nat.zero_le _⟩
    ·rintro ⟨k, hk⟩
     obtain ⟨c, hc⟩ : ∃ c, b ++ (decs k g).map (48 + ·) = c := ⟨_, rfl⟩
     obtain ⟨q, hqv⟩ : ∃ q, g / 10 ^ k = q := ⟨_, rfl⟩
     have hqB : q < 1000000000 := by rw [← hqv]; exact Nat.lt_of_le_of_lt (Nat.div_le_self _ _) hgB
     have hcl : c.length = 9 * i + k := by rw [← hc]; simp [xW, hbl]
     have hnext : b ++ (decs (k + 1) g).map (48 + ·) = c ++ [48 + q % 10] := by
      rw [Qb, List.map_append, ← List.append_assoc, hc, hqv]; rfl
     have hqn : g / 10 ^ (k + 1) = q / 10 := by rw [Nat.pow_succ, ← Nat.div_div_eq_div_mul, hqv]
     simp only [hc, hqv]
     refine zc.run hmix Ka [1, 4, 6, 12, 13, 14, 18] 400 (T := Tree.ite (decide ((↑k : Int) < (9 : Int))) (Tree.side ((10 : Int) ≠ (0 : Int)) (Tree.side (inR IntKind.u32 ((48 : Int) + Int.tmod (↑q : Int) (10 : Int))) (Tree.side (inR IntKind.u8 ((48 : Int) + Int.tmod (↑q : Int) (10 : Int))) (Tree.side ((0 : Nat) = (0 : Nat) ∧ List.length c ≤ List.length c ∧ (List.length c + (1 : Nat)) * (1 : Nat) ≤ (140737488355328 : Nat)) (Tree.side ((10 : Int) ≠ (0 : Int) ∧ inR IntKind.u32 (Int.tdiv (↑q : Int) (10 : Int))) (Tree.side (inR IntKind.i64 ((↑k : Int) + (1 : Int))) (Tree.leaf (jS.back (1 : Nat) [((1 : Nat), AV.ptr (0 : Nat) (0 : Nat)), ((4 : Nat), AV.osl (1 : Nat) (1 : Nat) (0 : Nat) (List.length c + (1 : Nat))), ((6 : Nat), AV.int IntKind.u32 (Int.tdiv (↑q : Int) (10 : Int))), ((12 : Nat), AV.sl (List.length (canon x)) (1 : Nat) (natG IntKind.u32 (canon x))), ((13 : Nat), AV.int IntKind.i64 (↑(List.length (canon x)) : Int)), ((14 : Nat), AV.int IntKind.i64 (↑i : Int)), ((18 : Nat), AV.int IntKind.i64 ((↑k : Int) + (1 : Int)))] [Blk.box [AV.bool neg, AV.sl (List.length (canon x)) (1 : Nat) (natG IntKind.u32 (canon x))], Blk.arr (List.length c + (1 : Nat)) (1 : Nat) (appG (List.length c) (natG IntKind.u8 c) (zg (zf (1 : Nat) [AV.int IntKind.u8 ((48 : Int) + Int.tmod (↑q : Int) (10 : Int))]) (0 : Nat))), Blk.arr (1 : Nat) (1 : Nat) (zf (1 : Nat) [AV.int IntKind.u8 ((48 : Int) + Int.tmod (↑q : Int) (10 : Int))])])))))))) (Tree.side (inR IntKind.i64 ((↑i : Int) + (1 : Int))) (Tree.leaf (jS.back (0 : Nat) [((1 : Nat), AV.ptr (0 : Nat) (0 : Nat)), ((4 : Nat), AV.osl (1 : Nat) (1 : Nat) (0 : Nat) (List.length c)), ((6 : Nat), AV.int IntKind.u32 (↑q : Int)), ((12 : Nat), AV.sl (List.length (canon x)) (1 : Nat) (natG IntKind.u32 (canon x))), ((13 : Nat), AV.int IntKind.i64 (↑(List.length (canon x)) : Int)), ((14 : Nat), AV.int IntKind.i64 ((↑i : Int) + (1 : Int))), ((18 : Nat), AV.int IntKind.i64 (↑k : Int))] [Blk.box [AV.bool neg, AV.sl (List.length (canon x)) (1 : Nat) (natG IntKind.u32 (canon x))], Blk.arr (List.length c) (1 : Nat) (natG IntKind.u8 c)])))) (by kernel_rfl) ?_
     have e10 : (10 : Int) = ((10 : Nat) : Int) := rfl
     have em : Int.tmod (q : Int) 10 = ((q % 10 : Nat) : Int) := by rw [e10, VW]
     have ed : Int.tdiv (q : Int) 10 = ((q / 10 : Nat) : Int) := by rw [e10, Ku]
     simp only [Tree.holds, ze, inR, lo, hi, em, ed]
     refine ⟨fun hlt2 => ?_, fun hge2 => ?_⟩
     ·have hlt2 : k < 9 := by simp at hlt2; omega
      refine ⟨by decide, fun _ => ⟨by omega, fun _ => ⟨by omega, fun _ => ⟨⟨trivial, Nat.le_refl _, by omega⟩, fun _ => ⟨⟨by decide, by omega, by omega⟩, fun _ => ⟨by omega, fun _ => ?_⟩⟩⟩⟩⟩⟩
      rw [if_pos trivial]
      refine ⟨⟨k + 1, by omega⟩, by show 9 - (k + 1) < 9 - k; omega, ?_, ?_, by kernel_rfl, Nat.zero_le _⟩
      ·simp [SW2, hnext, hqn, magS, natS, za]
      ·simp only [hnext]
       refine ⟨by simp [wT, magS, natS, za], ⟨by simp, rfl, ?_⟩, trivial⟩
       have := uL (k := .u8) (l := c) (v := 48 + ((q % 10 : Nat) : Int)) (by omega)
       rw [show (48 + ((q % 10 : Nat) : Int)).toNat = 48 + q % 10 by omega] at this
       exact this
     ·have hge2 : k = 9 := by simp at hge2; omega
      subst hge2
      refine ⟨by omega, fun _ => ?_⟩
      rw [if_neg (by decide), if_pos trivial]
      have hcw : c = wb x (i + 1) := by rw [← hc, hstep]
      exact ⟨⟨i + 1, hlt⟩, by show _ - (i + 1) < _ - i; omega, by simp [SW, hcw, magS, natS, za], by simp [hcw, wT, magS, natS, za], by kernel_rfl, Nat.zero_le _⟩
   ·have hge : i = (canon x).length := by simp at hge; omega
    subst hge
    exact KJ neg x hp hx0 hq b hb.symm
end Go.Proofs.Try
end

/- The integers' texts: Check, pair, Gcd. -/
section
set_option maxRecDepth 100000
open Go Go.Sx Go.Proofs Go.Nov
namespace Go.Proofs.Try
attribute [local simp] eqKV eqA eqA0 eqH eqB eqL eqL0
noncomputable def K64 : List Go.Sx.Item := [.code (Try.f64.body.getD .skip)]
noncomputable def K65 : List Go.Sx.Item := [.code (Try.f65.body.getD .skip)]
theorem uX (c : UInt8) : (if decide ((c.toNat : Int) < 48) = true then true else decide (57 < (c.toNat : Int))) = !isD c := by
 simp only [isD]
 by_cases h : c.toNat < 48
 ·rw [if_pos (by simp; omega)]; simp; omega
 ·rw [if_neg (by simp; omega)]
  by_cases h2 : c.toNat ≤ 57
  ·have : decide (57 < (c.toNat : Int)) = false := by simp; omega
   rw [this]; simp; omega
  ·have : decide (57 < (c.toNat : Int)) = true := by simp; omega
   rw [this]; simp; omega
def Z1 : Ctr := ctrP true (fun s : List UInt8 => [.str s]) (fun s => s.length < 2 ^ 62) (fun s r => r = errI s) (fun _ r => (.int .i64 r, []))
def SCk (b : List UInt8) (i : Nat) : KV := [(3, .str b), (31, .int .i64 (b.length : Int)), (32, .int .i64 (i : Int)), (40, .undef), (41, .undef), (42, .undef), (43, .undef)]
theorem Z7 {O : Nat → Prop} {w0 : World} {Q : AV × Heap → Prop} {neg : Bool} (b : List UInt8) (hb : b.length < 2 ^ 62) (hf : b.all isD = true → jV neg b = true)
  (hq : Q (.int .i64 (if jV neg b then (if 1000 < b.length then 14 else 0) else 12), [])) :
  zc Try.prog Try.f64 O 0 w0 [] (fun _ _ _ => False) (RetR Z1 0 Q) (.code (.loop (lps K64 0).1) :: (lps K64 0).2) (mk Try.f64.ntmps (SCk b 0) []) := by
 refine zc.loop (ι := {i : Nat // i ≤ b.length ∧ ∀ j, j < i → isD (b.getD j 0) = true}) (fun i => SCk b i.1) (fun _ => []) (fun i => b.length - i.1) ⟨0, Nat.zero_le _, fun j hj => by omega⟩ 0 ?_ ?_ (by kernel_rfl)
 ·exact ⟨by simp [SCk], by simp, by kernel_rfl, Nat.zero_le _⟩
 ·rintro ⟨i, hil, hid⟩
  refine zc.run hmix z7 [3, 31, 32, 40, 41, 42, 43] 400 (T := .ite (decide ((↑i : Int) < b.length)) (.side ((0 : Int) ≤ i ∧ (↑i : Int) < b.length) (.side (decide ((↑(UInt8.toNat (List.getD b (Int.toNat (↑i : Int)) (0 : UInt8))) : Int) < 48) = false → (0 : Int) ≤ i ∧ (↑i : Int) < b.length) (.ite (bif decide ((↑(UInt8.toNat (List.getD b (Int.toNat (↑i : Int)) (0 : UInt8))) : Int) < 48) then true else decide ((57 : Int) < (↑(UInt8.toNat (List.getD b (Int.toNat (↑i : Int)) (0 : UInt8))) : Int))) (.leaf (.ret [.int .i64 12] [])) (.side (inR .i64 ((↑i : Int) + (1 : Int))) (.leaf (.back 0 [(3, .str b), (31, .int .i64 b.length), (32, .int .i64 ((↑i : Int) + (1 : Int))), (40, .undef), (41, .undef), (42, .undef), (43, .undef)] [])))))) (.ite (decide ((1000 : Int) < b.length)) (.leaf (.ret [.int .i64 14] [])) (.leaf (.ret [.int .i64 0] [])))) (by kernel_rfl) ?_
  simp only [Tree.holds, ze, inR, lo, hi, Int.toNat_natCast, Bool.cond_eq_ite]
  refine ⟨fun hlt => ?_, fun hge => ⟨fun hbig => ?_, fun hsm => ?_⟩⟩
  ·have hlt : i < b.length := by simp at hlt; omega
   refine ⟨by omega, fun _ => ⟨fun _ => by omega, fun _ => ⟨fun hbad => ?_, fun hgood => ⟨by omega, fun _ => ?_⟩⟩⟩⟩
   ·have hnd : isD (b.getD i 0) = false := by
     rw [uX] at hbad
     simpa using hbad
    have hnf : jV neg b = false := by
     have : b.all isD = false := by
      rw [List.all_eq_false]
      refine ⟨b.getD i 0, by simp [List.getD, hlt], by simpa using hnd⟩
     simp [jV, this]
    rw [hnf] at hq
    exact RetR.scal hq rfl (by simp [resV])
   ·have hd : isD (b.getD i 0) = true := by
     rw [uX] at hgood
     simpa using hgood
    rw [if_pos trivial]
    refine ⟨⟨i + 1, hlt, fun j hj => ?_⟩, by show b.length - (i + 1) < b.length - i; omega, by simp [SCk], by simp, by kernel_rfl, Nat.zero_le _⟩
    rcases Nat.lt_or_ge j i with h | h
    ·exact hid j h
    ·have : j = i := by omega
     subst this; exact hd
  all_goals
   have hge : i = b.length := by simp at hge; omega
   have hall : b.all isD = true := by
    rw [List.all_eq_true]
    intro c hc
    obtain ⟨j, hj, rfl⟩ := List.getElem_of_mem hc
    have := hid j (by omega)
    simpa [List.getD, hj] using this
   rw [hf hall] at hq
  ·rw [if_pos rfl, if_pos (by simp at hbig; omega)] at hq
   exact RetR.scal hq rfl (by simp [resV])
  ·rw [if_pos rfl, if_neg (by simp at hsm; omega)] at hq
   exact RetR.scal hq rfl (by simp [resV])
theorem Ze : zd Try.prog 64 Z1 := by
 refine zm (fn := Try.f64) (c := Try.f64.body.getD .skip) rfl rfl rfl fun s hs O w0 Q hq => ?_
 replace hq := hq _ rfl
 refine zc.run hmix z7 [3, 31, 32, 40, 41, 42, 43] 400 (T := .side (decide ((0 : Int) < s.length) = true → (0 : Int) ≤ 0 ∧ (0 : Int) < s.length) (.ite (bif decide ((0 : Int) < s.length) then decide ((↑(UInt8.toNat (List.getD s 0 (0 : UInt8))) : Int) = 45) else false) (.side ((0 : Int) ≤ 1 ∧ (1 : Int) ≤ s.length) (.ite (decide (List.drop 1 (List.take s.length s) = Array.toList #[(48 : UInt8)])) (.leaf (.ret [.int .i64 12] [])) (.side (decide (List.drop 1 (List.take s.length s) = Array.toList #[]) = false → (0 : Int) ≤ 0 ∧ (0 : Int) < (↑(List.length (List.drop 1 (List.take s.length s))) : Int)) (.ite (bif decide (List.drop 1 (List.take s.length s) = Array.toList #[]) then true else bif decide ((↑(UInt8.toNat (List.getD (List.drop 1 (List.take s.length s)) 0 (0 : UInt8))) : Int) = 48) then decide ((1 : Int) < (↑(List.length (List.drop 1 (List.take s.length s))) : Int)) else false) (.leaf (.ret [.int .i64 12] [])) (.leaf (.loop (Prod.fst (lps K64 0)) (Prod.snd (lps K64 0)) [(3, .str (List.drop 1 (List.take s.length s))), (31, .int .i64 (↑(List.length (List.drop 1 (List.take s.length s))) : Int)), (32, .int .i64 0), (40, .undef), (41, .undef), (42, .undef), (43, .undef)] [])))))) (.side (decide (s = Array.toList #[]) = false → (0 : Int) ≤ 0 ∧ (0 : Int) < s.length) (.ite (bif decide (s = Array.toList #[]) then true else bif decide ((↑(UInt8.toNat (List.getD s 0 (0 : UInt8))) : Int) = 48) then decide ((1 : Int) < s.length) else false) (.leaf (.ret [.int .i64 12] [])) (.leaf (.loop (Prod.fst (lps K64 0)) (Prod.snd (lps K64 0)) [(3, .str s), (31, .int .i64 s.length), (32, .int .i64 0), (40, .undef), (41, .undef), (42, .undef), (43, .undef)] [])))))) (by kernel_rfl) ?_
 simp only [Tree.holds, ze, inR, lo, hi, Bool.cond_eq_ite]
 cases s with
 | nil =>
  simp only [errI, parse, jV] at hq
  refine ⟨by simp, fun _ => ⟨fun h => by simp at h, fun _ => ⟨by simp, fun _ => ⟨fun _ => ?_, fun h => by simp at h⟩⟩⟩⟩
  exact RetR.scal hq rfl (by simp [resV])
 | cons c b =>
  refine ⟨by simp, fun _ => ⟨fun h => ?_, fun h => ?_⟩⟩
  ·have hc : c = 45 := by
    simp at h
    have : c.toNat = 45 := by omega
    exact UInt8.toNat_inj.1 this
   subst hc
   have hp : parse (45 :: b) = (true, b) := rfl
   have hd : List.drop 1 (List.take (45 :: b).length (45 :: b)) = b := by simp
   rw [hd]
   simp only [errI, hp] at hq
   refine ⟨by simp; omega, fun _ => ⟨fun h0 => ?_, fun h0 => ⟨fun hne => ?_, fun _ => ⟨fun hbad => ?_, fun hgood => ?_⟩⟩⟩⟩
   ·have hb : b = [48] := by simpa using h0
    subst hb
    exact RetR.scal hq rfl rfl
   ·have : b ≠ [] := by simpa using hne
    have := List.length_pos_iff.2 this
    omega
   ·have hnf : jV true b = false := by
     by_cases hb : b = []
     ·subst hb; rfl
     ·rw [if_neg (by simpa using hb)] at hbad
      split at hbad
      ·rename_i h48
       have : b.getD 0 0 = 48 := Kj (of_decide_eq_true h48)
       have hl : 1 < b.length := by simp at hbad; omega
       exact u6 this hl
      ·cases hbad
    rw [hnf] at hq
    exact RetR.scal hq rfl (by simp [resV])
   ·have hf : b.all isD = true → jV true b = true := by
     intro hall
     have hb : b ≠ [] := by
      intro hb; subst hb; simp at hgood
     have hb2 : b ≠ [48] := by simpa using h0
     rw [if_neg (by simpa using hb)] at hgood
     have h3 : ¬ (b.getD 0 0 = 48 ∧ 1 < b.length) := by
      rintro ⟨g1, g2⟩
      rw [g1] at hgood
      rw [if_pos (by decide)] at hgood
      simp at hgood; omega
     simp only [jV, hall, hb, hb2, Bool.and_true]
     simp only [decide_false, Bool.not_false, Bool.and_false, Bool.true_and, Bool.not_eq_true', Bool.and_eq_false_iff, decide_eq_false_iff_not]
     by_cases g1 : b.getD 0 0 = 48
     ·exact .inr fun g2 => h3 ⟨g1, g2⟩
     ·exact .inl g1
    exact Z7 b (by simp at hs; omega) hf hq
  ·have hc : c ≠ 45 := by
    rintro rfl
    simp at h
   have hp : parse (c :: b) = (false, c :: b) := by simp [parse, hc]
   simp only [errI, hp] at hq
   obtain ⟨s, hs'⟩ : ∃ s, c :: b = s := ⟨_, rfl⟩
   have hne : s ≠ [] := by rw [← hs']; simp
   rw [hs'] at hq hs ⊢
   refine ⟨fun _ => ⟨by omega, by have := List.length_pos_iff.2 hne; omega⟩, fun _ => ⟨fun hbad => ?_, fun hgood => ?_⟩⟩
   ·have hnf : jV false s = false := by
     rw [if_neg (by simpa using hne)] at hbad
     split at hbad
     ·rename_i h48
      have : s.getD 0 0 = 48 := Kj (of_decide_eq_true h48)
      have hl : 1 < s.length := by simp at hbad; omega
      exact u6 this hl
     ·cases hbad
    rw [hnf] at hq
    exact RetR.scal hq rfl (by simp [resV])
   ·have hf : s.all isD = true → jV false s = true := by
     intro hall
     rw [if_neg (by simpa using hne)] at hgood
     have h3 : ¬ (s.getD 0 0 = 48 ∧ 1 < s.length) := by
      rintro ⟨g1, g2⟩
      rw [g1] at hgood
      rw [if_pos (by decide)] at hgood
      simp at hgood; omega
     simp only [jV, hall, hne, Bool.and_true]
     simp only [decide_false, Bool.not_false, Bool.false_and, Bool.true_and, Bool.not_eq_true', Bool.and_eq_false_iff, decide_eq_false_iff_not]
     by_cases g1 : s.getD 0 0 = 48
     ·exact .inr fun g2 => h3 ⟨g1, g2⟩
     ·exact .inl g1
    exact Z7 s hs hf hq
def numV (neg : Bool) (x : Nat) : AV := .agg [.bool neg, magS x]
def Qg : Ctr := ctrP false (fun p : List UInt8 × List UInt8 => [.str p.1, .str p.2]) (fun p => p.1.length < 2 ^ 62 ∧ p.2.length < 2 ^ 62) (fun p (r : Int × (Bool × Nat) × (Bool × Nat)) => r = if j2 p.1 p.2 = 0 then (0, (negI p.1, numI p.1), (negI p.2, numI p.2)) else (j2 p.1 p.2, (false, 0), (false, 0)))
 (fun _ r => (.tup [numV r.2.1.1 r.2.1.2, numV r.2.2.1 r.2.2.2, .int .i64 r.1], []))
noncomputable def G5 : Nat → Option Ctr := fun f => if f = 64 then some (Z1) else if f = 94 then some (Yu) else none
theorem zd3 : ∀ g c, G5 g = some c → zd Try.prog g c := okIf Ze (okIf zak (zu))
theorem zbv : canon 0 = [] := by simp [canon]
theorem zaf : zd Try.prog 84 Qg := by
 refine zm (fn := Try.f84) (c := Try.f84.body.getD .skip) rfl rfl rfl fun p hp O w0 Q hq => ?_
 obtain ⟨s, t⟩ := p
 obtain ⟨hs, ht⟩ := hp
 replace hq := hq _ rfl
 simp only at hs ht hq
 refine zc.run hmix zd3 [] 400 (T := .ex (fun (x : List UInt8) => eqL [AV.str s] [AV.str x] ∧ x.length < 4611686018427387904) fun n => .all (fun (r : Int) => r = errI n) fun n => .ite (decide (n = 0)) (.ex (fun (x : List UInt8) => eqL [AV.str t] [AV.str x] ∧ x.length < 4611686018427387904) fun n => .all (fun (r : Int) => r = errI n) fun n => .ite (!decide (n = 0)) (.leaf (.ret [.agg [.bool false, .nils], .agg [.bool false, .nils], .int .i64 n] [.box [.bool false, .nils], .box [.bool false, .nils]])) (.ex (fun (x : Bool × List UInt8) => eqL [AV.str s] [AV.str (sgn x.1 x.2)] ∧ allD x.2 ∧ x.2 ≠ [] ∧ x.2.length ≤ 1000000) fun n => .all (fun (r : Nat) => r = numD n.2) fun n_1 => .ex (fun (x : Bool × List UInt8) => eqL [AV.str t] [AV.str (sgn x.1 x.2)] ∧ allD x.2 ∧ x.2 ≠ [] ∧ x.2.length ≤ 1000000) fun n_2 => .all (fun (r : Nat) => r = numD n_2.2) fun n_3 => .leaf (.ret [.agg [.bool n.1, .sl (canon n_1).length 1 (natG .u32 (canon n_1))], .agg [.bool n_2.1, .sl (canon n_3).length 1 (natG .u32 (canon n_3))], .int .i64 0] [.box [.bool n.1, .sl (canon n_1).length 1 (natG .u32 (canon n_1))], .box [.bool n_2.1, .sl (canon n_3).length 1 (natG .u32 (canon n_3))]]))) (.ite (!decide (n = 0)) (.leaf (.ret [.agg [.bool false, .nils], .agg [.bool false, .nils], .int .i64 n] [.box [.bool false, .nils], .box [.bool false, .nils]])) (.ex (fun (x : Bool × List UInt8) => eqL [AV.str s] [AV.str (sgn x.1 x.2)] ∧ allD x.2 ∧ x.2 ≠ [] ∧ x.2.length ≤ 1000000) fun n => .all (fun (r : Nat) => r = numD n.2) fun n_1 => .ex (fun (x : Bool × List UInt8) => eqL [AV.str t] [AV.str (sgn x.1 x.2)] ∧ allD x.2 ∧ x.2 ≠ [] ∧ x.2.length ≤ 1000000) fun n_2 => .all (fun (r : Nat) => r = numD n_2.2) fun n_3 => .leaf (.ret [.agg [.bool n.1, .sl (canon n_1).length 1 (natG .u32 (canon n_1))], .agg [.bool n_2.1, .sl (canon n_3).length 1 (natG .u32 (canon n_3))], .int .i64 0] [.box [.bool n.1, .sl (canon n_1).length 1 (natG .u32 (canon n_1))], .box [.bool n_2.1, .sl (canon n_3).length 1 (natG .u32 (canon n_3))]])))) (by kernel_rfl) ?_
 have bad : ∀ h, j2 s t ≠ 0 → RetR Qg 0 Q [.agg [.bool false, .nils], .agg [.bool false, .nils], .int .i64 (j2 s t)] h := by
  intro h he
  rw [if_neg he] at hq
  refine RetR.out0 hq (fun h => by simp [Qg, ctrP] at h) ?_
  simp [resV, exp2, exp1, exp0, ren0, eqA2, eqL1, eqA, eqL0, eqA0, numV, magS, natS, zbv]
 have good : ∀ h, j2 s t = 0 → RetR Qg 0 Q [.agg [.bool (negI s), magS (numI s)], .agg [.bool (negI t), magS (numI t)], .int .i64 0] h := by
  intro h he
  rw [if_pos he] at hq
  refine RetR.out0 hq (fun h => by simp [Qg, ctrP] at h) ?_
  simp [resV, exp2, exp1, exp0, ren0, eqA2, eqL1, eqA, eqL0, eqA0, numV, magS, natS, za]
 have rd : ∀ u, errI u = 0 → eqL [AV.str u] [AV.str (sgn (negI u) (parse u).2)] ∧ allD (parse u).2 ∧ (parse u).2 ≠ [] ∧ (parse u).2.length ≤ 1000000 := by
  intro u hu
  obtain ⟨h1, h2, h3, h4⟩ := Wg hu
  exact ⟨by simpa using h1, h2, h3, by omega⟩
 simp only [Tree.holds, ze]
 refine ⟨s, ⟨by simp, by omega⟩, ?_⟩
 refine ⟨⟨_, rfl⟩, ?_⟩
 rintro _ rfl
 refine ⟨fun h1 => ?_, fun h1 => ?_⟩
 ·have h1 : errI s = 0 := by simpa using h1
  refine ⟨t, ⟨by simp, by omega⟩, ?_⟩
  refine ⟨⟨_, rfl⟩, ?_⟩
  rintro _ rfl
  refine ⟨fun h2 => ?_, fun h2 => ?_⟩
  ·have h2 : errI t ≠ 0 := by simpa using h2
   have e : j2 s t = errI t := by simp [j2, h1]
   rw [← e]
   exact bad _ (by rw [e]; exact h2)
  ·have h2 : errI t = 0 := by simpa using h2
   refine ⟨(negI s, (parse s).2), rd s h1, ?_⟩
   refine ⟨⟨_, rfl⟩, ?_⟩
   rintro _ rfl
   refine ⟨(negI t, (parse t).2), rd t h2, ?_⟩
   refine ⟨⟨_, rfl⟩, ?_⟩
   rintro _ rfl
   exact good _ (Z3.2 ⟨h1, h2⟩)
 ·have h1 : errI s ≠ 0 := by simpa using h1
  have e : j2 s t = errI s := by simp [j2, h1]
  refine ⟨fun h2 => ?_, fun h2 => absurd (by simpa using h2) h1⟩
  rw [← e]
  exact bad _ (by rw [e]; exact h1)
noncomputable def G6 : Nat → Option Ctr := fun f => if f = 84 then some (Qg) else if f = 85 then some (ui) else if f = 86 then some (WH) else none
theorem zbl : ∀ g c, G6 g = some c → zd Try.prog g c := okIf zaf (okIf XB (okIf YI (zu)))
def gcdC : Ctr := ctrP true (fun p : List UInt8 × List UInt8 => [.str p.1, .str p.2]) (fun p => p.1.length < 2 ^ 62 ∧ p.2.length < 2 ^ 62) (fun p r => r = gcdR p.1 p.2) (fun _ r => (.tup [.str r.1, .int .i64 r.2], []))
def SGc : KV := [(6, .ptr 0 0), (7, .ptr 1 0)]
def HGc (m n : Bool) (x y : Nat) : Heap := [.box [.bool m, magS x], .box [.bool n, magS y]]
theorem jT {x : Nat} : x < B ^ 112 ↔ (canon x).length ≤ 112 := by
 refine ⟨fun h => zx h, fun h => ?_⟩
 have h1 := zZ (zj x)
 rw [zk] at h1
 exact Nat.lt_of_lt_of_le h1 (Nat.pow_le_pow_right (by decide) h)
theorem XI {x : Nat} : (canon x).length = 0 ↔ x = 0 := by
 constructor
 ·intro h
  have := zk x
  rw [List.length_eq_zero_iff.1 h] at this
  exact this.symm
 ·rintro rfl; simp [canon]
theorem zbt : zd Try.prog 65 gcdC := by
 refine zm (fn := Try.f65) (c := Try.f65.body.getD .skip) rfl rfl rfl fun p hp O w0 Q hq => ?_
 obtain ⟨s, t⟩ := p
 obtain ⟨hs, ht⟩ := hp
 replace hq := hq _ rfl
 simp only at hs ht hq
 refine zc.run hmix zbl [6, 7] 400 (T := .ex (fun (x : List UInt8 × List UInt8) => eqL [AV.str s, AV.str t] [AV.str x.1, AV.str x.2] ∧ x.1.length < 4611686018427387904 ∧ x.2.length < 4611686018427387904) fun n => .all (fun (r : Int × (Bool × Nat) × Bool × Nat) => r = if j2 n.1 n.2 = 0 then ((0 : Int), (negI n.1, numI n.1), negI n.2, numI n.2) else (j2 n.1 n.2, (false, 0), false, 0)) fun n => .ite (!decide (n.1 = 0)) (.leaf (.ret [.str (Array.toList #[]), .int .i64 n.1] [.box [.bool n.2.1.1, .sl (canon n.2.1.2).length 1 (natG .u32 (canon n.2.1.2))], .box [.bool n.2.2.1, .sl (canon n.2.2.2).length 1 (natG .u32 (canon n.2.2.2))]])) (.leaf (.loop (Prod.fst (lps K65 0)) (Prod.snd (lps K65 0)) [(6, .ptr 0 0), (7, .ptr 1 0)] [.box [.bool n.2.1.1, .sl (canon n.2.1.2).length 1 (natG .u32 (canon n.2.1.2))], .box [.bool n.2.2.1, .sl (canon n.2.2.2).length 1 (natG .u32 (canon n.2.2.2))]]))) (by kernel_rfl) ?_
 simp only [Tree.holds, ze]
 refine ⟨(s, t), ⟨by simp, hs, ht⟩, ⟨_, rfl⟩, ?_⟩
 rintro _ rfl
 refine ⟨fun he => ?_, fun he => ?_⟩
 ·have he : j2 s t ≠ 0 := by
   intro h; simp [h] at he
  have e : gcdR s t = ([], j2 s t) := by simp [gcdR, he]
  simp only [if_neg he]
  rw [e] at hq
  exact RetR.scal hq rfl (by simp [resV])
 ·have he : j2 s t = 0 := by
   refine Decidable.byContradiction fun h => ?_
   simp [h] at he
  simp only [if_pos he]
  have e : gcdR s t = wr false (Nat.gcd (numI s) (numI t)) := by simp [gcdR, he]
  rw [e] at hq
  obtain ⟨h1, h2⟩ := Z3.1 he
  have b1 := jT.2 (Zl h1)
  have b2 := jT.2 (Zl h2)
  clear e he h1 h2 hs ht
  generalize numI s = x0 at *
  generalize numI t = y0 at *
  refine zc.loop (ι := {z : Bool × Bool × Nat × Nat // Nat.gcd z.2.2.1 z.2.2.2 = Nat.gcd x0 y0 ∧ z.2.2.1 < B ^ 112 ∧ z.2.2.2 < B ^ 112}) (fun _ => SGc) (fun z => HGc z.1.1 z.1.2.1 z.1.2.2.1 z.1.2.2.2) (fun z => z.1.2.2.2) ⟨(negI s, negI t, x0, y0), rfl, b1, b2⟩ 0 ?_ ?_ (by kernel_rfl)
  ·exact ⟨by simp [SGc], by simp [HGc, magS, natS, za], by kernel_rfl, Nat.zero_le _⟩
  ·rintro ⟨⟨m, n, x, y⟩, hg, hx, hy⟩
   simp only at hg hx hy
   refine zc.run hmix zbl [6, 7] 400 (T := .ite (decide ((0 : Int) < (↑(canon y).length : Int))) (.ex (fun (x_1 : Nat × Nat) => eqL [AV.sl (canon x).length 1 (natG .u32 (canon x)), AV.sl (canon y).length 1 (natG .u32 (canon y))] [AV.sl (canon x_1.1).length 1 (natG .u32 (canon x_1.1)), AV.sl (canon x_1.2).length 1 (natG .u32 (canon x_1.2))] ∧ List.length (canon x_1.1) < 100000 ∧ List.length (canon x_1.2) < 100000 ∧ 0 < x_1.2) fun n_1 => .all (fun (r : Nat × Nat) => r = (n_1.1 / n_1.2, n_1.1 % n_1.2)) fun n_2 => .leaf (.back 0 [(6, .ptr 0 0), (7, .ptr 1 0)] [.box [.bool m, .sl (canon y).length 1 (natG .u32 (canon y))], .box [.bool n, .sl (canon n_2.2).length 1 (natG .u32 (canon n_2.2))]])) (.ex (fun (x_1 : Bool × Nat) => eqL [AV.agg [AV.bool false, AV.sl (canon x).length 1 (natG .u32 (canon x))]] [AV.agg [AV.bool x_1.1, AV.sl (canon x_1.2).length 1 (natG .u32 (canon x_1.2))]] ∧ List.length (canon x_1.2) < 1000000) fun n_1 => .all (fun (r : List UInt8 × Int) => r = wr n_1.1 n_1.2) fun n_2 => .leaf (.ret [.str n_2.1, .int .i64 n_2.2] [.box [.bool m, .sl (canon x).length 1 (natG .u32 (canon x))], .box [.bool n, .sl (canon y).length 1 (natG .u32 (canon y))]]))) (by kernel_rfl) ?_
   simp only [Tree.holds, ze, inR, lo, hi]
   refine ⟨fun h0 => ?_, fun h0 => ?_⟩
   ·have hy0 : 0 < y := by
     rcases Nat.eq_zero_or_pos y with h | h
     ·rw [h] at h0; simp [canon] at h0
     ·exact h
    refine ⟨(x, y), ⟨by simp [za], ?_, ?_, hy0⟩, ⟨_, rfl⟩, ?_⟩
    ·have := jT.1 hx; show (canon x).length < 100000; omega
    ·have := jT.1 hy; show (canon y).length < 100000; omega
    rintro _ rfl
    simp only
    rw [if_pos trivial]
    refine ⟨⟨(m, n, y, x % y), ?_, hy, Nat.lt_trans (Nat.mod_lt x hy0) hy⟩, Nat.mod_lt x hy0, by simp [SGc], by simp [HGc, magS, natS, za], by kernel_rfl, Nat.zero_le _⟩
    show Nat.gcd y (x % y) = Nat.gcd x0 y0
    rw [← hg, Nat.gcd_comm x y, Nat.gcd_rec y x, Nat.gcd_comm]
   ·have hy0 : y = 0 := XI.1 (by have h0 := of_decide_eq_false h0; omega)
    subst hy0
    refine ⟨(false, x), ⟨by simp [za], ?_⟩, ⟨_, rfl⟩, ?_⟩
    ·have := jT.1 hx; show (canon x).length < 1000000; omega
    rintro _ rfl
    rw [Nat.gcd_zero_right] at hg
    rw [← hg] at hq
    exact RetR.scal hq rfl (by simp [resV])
end Go.Proofs.Try
end

/- The reference's integers: digits and comparing. -/
section
set_option maxRecDepth 100000
open Go Go.Sx Go.Proofs Go.Nov
namespace Go.Proofs.Try
attribute [local simp] eqKV eqA eqA0 eqH eqB eqL eqL0
end Go.Proofs.Try
end

/- The reference's integers: texts. -/
section
set_option maxRecDepth 100000
open Go Go.Sx Go.Proofs Go.Nov
namespace Go.Proofs.Try
attribute [local simp] eqKV eqA eqA0 eqH eqB eqL eqL0
end Go.Proofs.Try
end

/- The reference's integers: dividing. -/
section
set_option maxRecDepth 100000
open Go Go.Sx Go.Proofs Go.Nov
namespace Go.Proofs.Try
attribute [local simp] eqKV eqA eqA0 eqH eqB eqL eqL0
structure IRo (l m : List Nat) where
 qs : List Nat
 r : List Nat
 i : Nat
 hi : i ≤ l.length
 hql : qs.length + i = l.length
 hqd : Ten.dig qs
 hrd : Ten.dig r
 hrl : r.length ≤ m.length + 1
 hrl2 : r.length + i ≤ l.length
 hlt : Ten.val r < Ten.val m
 hv : Ten.val (l.drop i) = Ten.val qs * Ten.val m + Ten.val r
end Go.Proofs.Try
end

/- The reference's integers: the greatest common divisor. -/
section
set_option maxRecDepth 100000
open Go Go.Sx Go.Proofs Go.Nov
namespace Go.Proofs.Try
attribute [local simp] eqKV eqA eqA0 eqH eqB eqL eqL0
end Go.Proofs.Try
end

/- The library's search for a byte, and what it means for the contracts. -/
section
namespace Go.Proofs
set_option maxHeartbeats 1000000 in
set_option maxRecDepth 100000 in
theorem Try.Wu (s : ByteArray) (c : Int) (w : World) :
  Calls Try.prog 118 #[.string s, .int .u8 c] w fun e w' => e = .returned (.int .i64 (Lib.indexByte s.data.toList c.toNat.toUInt8)) ∧ w' = w := by
 go_enter Try.func118, Try.ntmps118
 go_wp2
 rw [run_callFunc_extern Try.func128 (by kernel_rfl) (by kernel_rfl) (by kernel_rfl) (e := Extern.BytealgIndexByte.indexByte) (by kernel_rfl), Lib.run_indexByteString]
 simp only [Result.andThen]
 rw [Oper.upon_value]
 go_wp2
 go_ret
 exact ⟨rfl, rfl⟩
set_option maxHeartbeats 2000000 in
set_option maxRecDepth 100000 in
theorem Try.V6 (s : ByteArray) (c : UInt8) (w : World) :
  Calls Try.prog 110 #[.string s, .string ⟨#[c]⟩] w fun e w' => e = .returned (.int .i64 (Lib.indexByte s.data.toList c)) ∧ w' = w := by
 go_enter Try.func110, Try.ntmps110
 go_wp2_with (go_at_call 118; refine (Try.Wu _ _ _).mono ?_; rintro e w' ⟨rfl, rfl⟩)
 ·have h : ([c] == s.toList) = true := by assumption
  go_ret
  refine ⟨?_, rfl⟩
  have e : s.data.toList = [c] := by rw [← Lib.toList_data]; exact (beq_iff_eq.1 h).symm
  rw [e]
  simp [Lib.indexByte]
 ·go_ret
  exact ⟨rfl, rfl⟩
end Go.Proofs
end

/- Rationals: splitting and checking. -/
section
set_option maxRecDepth 100000
open Go Go.Sx Go.Proofs Go.Nov
namespace Go.Proofs.Try
attribute [local simp] eqKV eqA eqA0 eqH eqB eqL eqL0
theorem ud (s : List UInt8) : Lib.indexByte s 47 = if q9 s < s.length then (q9 s : Int) else -1 := by
 induction s with
 | nil => rfl
 | cons c s ih =>
  simp only [Lib.indexByte, q9, List.findIdx_cons]
  cases h : (c == 47) with
  | true => simp
  | false =>
   simp only [Bool.false_eq_true, if_false, ih, cond_false, List.length_cons]
   show _ = if q9 s + 1 < s.length + 1 then ((q9 s + 1 : Nat) : Int) else -1
   by_cases h2 : q9 s < s.length
   ·rw [if_pos h2, if_neg (by simp), if_pos (by omega)]; omega
   ·rw [if_neg h2, if_pos (by rfl), if_neg (by omega)]
def V8 : Ctr := ctrP true (fun s : List UInt8 => [.str s, .str [47]]) (fun s => True) (fun s r => r = if q9 s < s.length then (q9 s : Int) else -1) (fun _ (r : Int) => (.int .i64 r, []))
theorem YO : zd Try.prog 110 V8 := by
 intro args hc Q hq _
 simp only [V8, ctrP] at hq
 split at hq
 ·obtain ⟨s, ⟨h1, _⟩, _, h3⟩ := hq
  have hq := h3 _ rfl
  simp only [Tree.holds] at hq
  refine qh.le h1 ?_
  intro O w σ vals hg hh hr
  simp only [RepL, Rep] at hr
  obtain ⟨v1, r1, rfl, rfl, v2, r2, rfl, rfl, rfl⟩ := hr
  refine .inl ⟨enters_of Try.func110 (by kernel_rfl) rfl .., ?_⟩
  refine (Try.V6 ⟨s.toArray⟩ 47 w).mono ?_
  rintro e w' ⟨rfl, rfl⟩
  have hx := ud s
  have h0 : σ = [] := List.length_eq_zero_iff.1 hh.len
  subst h0
  refine ⟨_, rfl, _, [], [], hq, ?_, ⟨rfl, fun i j e f a b h => by simp at h, fun i e a h => by simp at h, fun i e b h => by simp at h⟩, hg, Nat.le_refl _, Hold.refl _ _ _, Ext.refl _ _⟩
  simp only [Rep]
  rw [← hx]
 ·exact hq.elim
def cutC : Ctr := ctrP true (fun s : List UInt8 => [.str s, .str [47]]) (fun s => s.length < 2 ^ 62) (fun s r => r = cutR s) (fun _ r => (.tup [.str r.1, .str r.2.1, .bool r.2.2], []))
noncomputable def GC1 : Nat → Option Ctr := fun f => if f = 110 then some (V8) else none
theorem zby : ∀ g c, GC1 g = some c → zd Try.prog g c := okIf YO (zu)
theorem za0 : zd Try.prog 93 cutC := by
 refine zm (fn := Try.f93) (c := Try.f93.body.getD .skip) rfl rfl rfl fun s hs O w0 Q hq => ?_
 replace hq := hq _ rfl
 refine zc.run hmix zby [] 400 (T := .ex (fun (x : List UInt8) => eqL [AV.str s, AV.str [(47 : UInt8)]] [AV.str x, AV.str [(47 : UInt8)]] ∧ True) fun n => .all (fun (r : Int) => r = if q9 n < n.length then (↑(q9 n) : Int) else (-1 : Int)) fun n => .ite (decide ((0 : Int) ≤ n)) (.side ((0 : Int) ≤ n ∧ n ≤ (↑s.length : Int)) (.side (inR .i64 (n + (1 : Int))) (.side ((0 : Int) ≤ n + (1 : Int) ∧ n + (1 : Int) ≤ s.length) (.leaf (.ret [.str (List.drop 0 (List.take (Int.toNat n) s)), .str (List.drop (Int.toNat (n + (1 : Int))) (List.take s.length s)), .bool true] []))))) (.leaf (.ret [.str s, .str (Array.toList #[]), .bool false] []))) (by kernel_rfl) ?_
 simp only [Tree.holds, ze, inR, lo, hi]
 refine ⟨s, ⟨by simp, trivial⟩, ⟨_, rfl⟩, ?_⟩
 rintro _ rfl
 by_cases h : q9 s < s.length
 ·simp only [if_pos h]
  rw [U3 h] at hq
  refine ⟨fun _ => ⟨by omega, fun _ => ⟨by omega, fun _ => ⟨by omega, fun _ => ?_⟩⟩⟩, fun hn => ?_⟩
  ·refine RetR.scal hq rfl ?_
   simp [resV]
  ·have := of_decide_eq_false hn; omega
 ·simp only [if_neg h]
  rw [zc2 h] at hq
  refine ⟨fun hn => ?_, fun _ => RetR.scal hq rfl (by simp [resV])⟩
  have := of_decide_eq_true hn; omega
noncomputable def GC2 : Nat → Option Ctr := fun f => if f = 93 then some (cutC) else none
theorem zcp : ∀ g c, GC2 g = some c → zd Try.prog g c := okIf za0 (zu)
theorem zbw : zd Try.prog 83 cutC := by
 refine zm (fn := Try.f83) (c := Try.f83.body.getD .skip) rfl rfl rfl fun s hs O w0 Q hq => ?_
 replace hq := hq _ rfl
 refine zc.run hmix zcp [] 400 (T := .ex (fun (x : List UInt8) => eqL [AV.str s, AV.str [(47 : UInt8)]] [AV.str x, AV.str [(47 : UInt8)]] ∧ x.length < 4611686018427387904) fun n => .all (fun (r : List UInt8 × List UInt8 × Bool) => r = cutR n) fun n => .leaf (.ret [.str n.1, .str n.2.1, .bool n.2.2] [])) (by kernel_rfl) ?_
 simp only [Tree.holds, ze, inR, lo, hi]
 refine ⟨s, ⟨by simp, hs⟩, ⟨_, rfl⟩, ?_⟩
 rintro _ rfl
 exact RetR.scal hq rfl (by simp [resV])
def Um : Ctr := ctrP true (fun s : List UInt8 => [.str s]) (fun s => s.length < 2 ^ 62) (fun s r => r = cutR s) (fun _ r => (.tup [.str r.1, .str r.2.1, .bool r.2.2], []))
noncomputable def GC3 : Nat → Option Ctr := fun f => if f = 83 then some (cutC) else if f = 64 then some (Z1) else none
theorem XY : ∀ g c, GC3 g = some c → zd Try.prog g c := okIf zbw (okIf Ze (zu))
theorem YB : zd Try.prog 62 Um := by
 refine zm (fn := Try.f62) (c := Try.f62.body.getD .skip) rfl rfl rfl fun s hs O w0 Q hq => ?_
 replace hq := hq _ rfl
 refine zc.run hmix XY [] 400 (T := .ex (fun (x : List UInt8) => eqL [AV.str s, AV.str (Array.toList #[(47 : UInt8)])] [AV.str x, AV.str [(47 : UInt8)]] ∧ x.length < 4611686018427387904) fun n => .all (fun (r : List UInt8 × List UInt8 × Bool) => r = cutR n) fun n => .leaf (.ret [.str n.1, .str n.2.1, .bool n.2.2] [])) (by kernel_rfl) ?_
 simp only [Tree.holds, ze, inR, lo, hi]
 refine ⟨s, ⟨by simp, hs⟩, ⟨_, rfl⟩, ?_⟩
 rintro _ rfl
 exact RetR.scal hq rfl (by simp [resV])
def zbk : Ctr := ctrP true (fun s : List UInt8 => [.str s]) (fun s => s.length < 2 ^ 62) (fun s r => r = if errI s = 12 then 12 else 0) (fun _ (r : Int) => (.int .i64 r, []))
theorem UN : zd Try.prog 63 zbk := by
 refine zm (fn := Try.f63) (c := Try.f63.body.getD .skip) rfl rfl rfl fun s hs O w0 Q hq => ?_
 replace hq := hq _ rfl
 refine zc.run hmix XY [] 400 (T := .ex (fun (x : List UInt8) => eqL [AV.str s] [AV.str x] ∧ x.length < 4611686018427387904) fun n => .all (fun (r : Int) => r = errI n) fun n => .ite (!decide (n = 14)) (.leaf (.ret [.int .i64 n] [])) (.leaf (.ret [.int .i64 0] []))) (by kernel_rfl) ?_
 simp only [Tree.holds, ze, inR, lo, hi]
 refine ⟨s, ⟨by simp, hs⟩, ⟨_, rfl⟩, ?_⟩
 rintro _ rfl
 rcases vA s with h | h | h <;> simp only [h] at hq ⊢
 all_goals
  refine ⟨fun h => ?_, fun h => ?_⟩
  all_goals first
   | (exfalso; revert h; decide)
   | exact RetR.scal hq rfl (by simp [resV])
def uv : Ctr := ctrP true (fun s : List UInt8 => [.str s]) (fun s => s.length < 2 ^ 62) (fun s r => r = errR s) (fun _ (r : Int) => (.int .i64 r, []))
noncomputable def GC4 : Nat → Option Ctr := fun f => if f = 62 then some (Um) else if f = 63 then some (zbk) else if f = 64 then some (Z1) else if f = 65 then some (gcdC) else none
theorem zbu : ∀ g c, GC4 g = some c → zd Try.prog g c := okIf YB (okIf UN (okIf Ze (okIf zbt (zu))))
theorem y9 : zd Try.prog 40 uv := by
 refine zm (fn := Try.f40) (c := Try.f40.body.getD .skip) rfl rfl rfl fun s hs O w0 Q hq => ?_
 replace hq := hq _ rfl
 refine zc.run hmix zbu [] 400 (T := .ex (fun (x : List UInt8) => eqL [AV.str s] [AV.str x] ∧ x.length < 4611686018427387904) fun n => .all (fun (r : List UInt8 × List UInt8 × Bool) => r = cutR n) fun n => .ex (fun (x : List UInt8) => eqL [AV.str n.1] [AV.str x] ∧ x.length < 4611686018427387904) fun n_1 => .all (fun (r : Int) => r = if errI n_1 = 12 then (12 : Int) else (0 : Int)) fun n_2 => .ex (fun (x : List UInt8) => (!decide (n_2 = 0)) = false ∧ n.2.2 = true → eqL [AV.str n.2.1] [AV.str x] ∧ x.length < 4611686018427387904) fun n_3 => .all (fun (x : Int) => (!decide (n_2 = 0)) = false ∧ n.2.2 = true → x = if errI n_3 = 12 then (12 : Int) else (0 : Int)) fun n_4 => .side (((!decide (n_2 = 0)) = false ∧ n.2.2 = true) ∧ (!decide (n_4 = 0)) = false → (0 : Int) ≤ 0 ∧ (0 : Int) < n.2.1.length) (.ite (bif !decide (n_2 = 0) then true else bif n.2.2 then bif bif bif !decide (n_4 = 0) then true else decide ((↑(UInt8.toNat (List.getD n.2.1 0 (0 : UInt8))) : Int) = 45) then true else decide (n.2.1 = Array.toList #[(48 : UInt8)]) then true else decide (n.2.1 = Array.toList #[(49 : UInt8)]) else false) (.leaf (.ret [.int .i64 12] [])) (.ex (fun (x : List UInt8) => eqL [AV.str n.1] [AV.str x] ∧ x.length < 4611686018427387904) fun n_5 => .all (fun (r : Int) => r = errI n_5) fun n_6 => .ex (fun (x : List UInt8) => (!decide (n_6 = 0)) = false ∧ n.2.2 = true → eqL [AV.str n.2.1] [AV.str x] ∧ x.length < 4611686018427387904) fun n_7 => .all (fun (x : Int) => (!decide (n_6 = 0)) = false ∧ n.2.2 = true → x = errI n_7) fun n_8 => .ite (bif !decide (n_6 = 0) then true else bif n.2.2 then !decide (n_8 = 0) else false) (.leaf (.ret [.int .i64 14] [])) (.ite n.2.2 (.ex (fun (x : List UInt8 × List UInt8) => eqL [AV.str n.1, AV.str n.2.1] [AV.str x.1, AV.str x.2] ∧ x.1.length < 4611686018427387904 ∧ x.2.length < 4611686018427387904) fun n => .all (fun (r : List UInt8 × Int) => r = gcdR n.1 n.2) fun n => .ite (!decide (n.1 = Array.toList #[(49 : UInt8)])) (.leaf (.ret [.int .i64 12] [])) (.leaf (.ret [.int .i64 0] []))) (.leaf (.ret [.int .i64 0] [])))))) (by kernel_rfl) ?_
 simp only [Tree.holds, ze, inR, lo, hi]
 refine ⟨s, ⟨by simp, hs⟩, ⟨_, rfl⟩, ?_⟩
 rintro _ rfl
 have hlen := UJ s
 have hno : (cutR s).2.2 = false → (cutR s).1 = s := by
  intro h
  unfold cutR at h ⊢
  split at h
  ·cases h
  ·rename_i hn; rw [if_neg hn]
 simp only [errR] at hq
 generalize cutR s = c at hq hlen hno ⊢
 obtain ⟨n, d, f⟩ := c
 simp only at hq hlen hno ⊢
 refine ⟨n, ⟨by simp, by omega⟩, ⟨_, rfl⟩, ?_⟩
 rintro _ rfl
 refine ⟨d, fun _ => ⟨by simp, by omega⟩, ⟨_, fun _ => rfl⟩, ?_⟩
 intro fd hfd
 cases f with
 | false =>
  have hn := hno rfl
  subst hn
  rw [if_neg (by decide)] at hq
  refine ⟨fun h => by simp at h, fun _ => ⟨fun h => ?_, fun h => ?_⟩⟩
  ·rcases vA n with e | e | e <;> rw [e] at hq h
   ·simp at h
   ·exact RetR.scal hq rfl (by simp [resV])
   ·simp at h
  ·have hn12 : errI n ≠ 12 := by
    intro e; rw [e] at h; simp at h
   refine ⟨n, ⟨by simp, by omega⟩, ⟨_, rfl⟩, ?_⟩
   rintro _ rfl
   refine ⟨d, fun _ => ⟨by simp, by omega⟩, ⟨_, fun _ => rfl⟩, ?_⟩
   intro fd2 _
   refine ⟨fun h => ?_, fun h => ⟨fun h => (by cases h), fun _ => ?_⟩⟩
   ·rcases vA n with e | e | e
    ·rw [e] at h; simp at h
    ·exact absurd e hn12
    ·rw [e] at hq; exact RetR.scal hq rfl (by simp [resV])
   ·rcases vA n with e | e | e
    ·rw [e] at hq; exact RetR.scal hq rfl (by simp [resV])
    ·exact absurd e hn12
    ·rw [e] at h; simp at h
 | true =>
  rw [if_pos rfl] at hq
  by_cases hn : errI n = 12
  ·rw [if_pos (.inl hn)] at hq
   simp only [hn]
   refine ⟨fun h => by simp at h, fun _ => ⟨fun _ => RetR.scal hq rfl (by simp [resV]), fun h => by simp at h⟩⟩
  ·rw [if_neg hn] at hfd ⊢
   have hfd := hfd ⟨by simp, rfl⟩
   subst hfd
   by_cases hd : errI d = 12
   ·rw [if_pos (.inr (.inl hd))] at hq
    rw [if_pos hd]
    refine ⟨fun h => by simp at h, fun _ => ⟨fun _ => RetR.scal hq rfl (by simp [resV]), fun h => by simp at h⟩⟩
   ·rw [if_neg hd]
    have hd0 : d ≠ [] := by rintro rfl; exact hd Uh
    have hneg := Xl hd0
    have hneg2 : decide (((d.getD 0 0).toNat : Int) = 45) = negI d := by
     rw [hneg]
     by_cases h : d.getD 0 0 = 45
     ·rw [h]; rfl
     ·rw [decide_eq_false h]
      refine decide_eq_false fun h2 => h (Kj ?_)
      rw [h2]; rfl
    rw [hneg2]
    refine ⟨fun _ => by have := List.length_pos_iff.2 hd0; omega, fun _ => ⟨fun h => ?_, fun h => ?_⟩⟩
    ·have : negI d = true ∨ d = [48] ∨ d = [49] := by
      revert h
      cases negI d <;> simp
     rw [if_pos (.inr (.inr this))] at hq
     exact RetR.scal hq rfl (by simp [resV])
    ·have : ¬ (errI n = 12 ∨ errI d = 12 ∨ negI d = true ∨ d = [48] ∨ d = [49]) := by
      revert h
      cases negI d <;> simp [hn, hd]
     rw [if_neg this] at hq
     refine ⟨n, ⟨by simp, by omega⟩, ⟨_, rfl⟩, ?_⟩
     rintro _ rfl
     refine ⟨d, fun _ => ⟨by simp, by omega⟩, ⟨_, fun _ => rfl⟩, ?_⟩
     intro ed hed
     by_cases hn0 : errI n = 0
     ·have hed := hed ⟨by simp [hn0], rfl⟩
      subst hed
      by_cases hd0 : errI d = 0
      ·rw [if_neg (by simp [hn0, hd0])] at hq
       refine ⟨fun h => by simp [hn0, hd0] at h, fun _ => ⟨fun _ => ?_, fun h => by cases h⟩⟩
       refine ⟨(n, d), ⟨by simp, by simp only; omega, by simp only; omega⟩, ⟨_, rfl⟩, ?_⟩
       rintro _ rfl
       refine ⟨fun h => ?_, fun h => ?_⟩
       ·rw [if_pos (by simpa using h)] at hq
        exact RetR.scal hq rfl (by simp [resV])
       ·rw [if_neg (by simpa using h)] at hq
        exact RetR.scal hq rfl (by simp [resV])
      ·rw [if_pos (.inr hd0)] at hq
       refine ⟨fun _ => RetR.scal hq rfl (by simp [resV]), fun h => by simp [hn0, hd0] at h⟩
     ·rw [if_pos (.inl hn0)] at hq
      refine ⟨fun _ => RetR.scal hq rfl (by simp [resV]), fun h => by simp [hn0] at h⟩
end Go.Proofs.Try
end

/- Names and days. -/
section
set_option maxRecDepth 100000
open Go Go.Sx Go.Proofs Go.Nov
namespace Go.Proofs.Try
attribute [local simp] eqKV eqA eqA0 eqH eqB eqL eqL0
noncomputable def K38 : List Go.Sx.Item := [.code (Try.f38.body.getD .skip)]
def J0 : Ctr := ctrP true (fun d : Int => [.int .i64 d]) (fun _ => True) (fun d r => r = dayB d) (fun _ (r : Bool) => (.bool r, []))
theorem Q8 : zd Try.prog 39 J0 := by
 refine zm (fn := Try.f39) (c := Try.f39.body.getD .skip) rfl rfl rfl fun d hs O w0 Q hq => ?_
 replace hq := hq _ rfl
 refine zc.run hmix z7 [] 400 (T := .leaf (.ret [.bool (bif decide ((0 : Int) ≤ d) then decide (d ≤ 99999) else false)] [])) (by kernel_rfl) ?_
 simp only [Tree.holds, ze]
 refine RetR.scal hq rfl ?_
 simp only [resV, dayB]
 cases decide (0 ≤ d) <;> rfl
theorem UQ (c : UInt8) : (bif bif decide (97 ≤ (c.toNat : Int)) then decide ((c.toNat : Int) ≤ 122) else false then true else bif decide (65 ≤ (c.toNat : Int)) then decide ((c.toNat : Int) ≤ 90) else false) = isL c := by
 have e1 : decide (97 ≤ (c.toNat : Int)) = decide (97 ≤ c.toNat) := decide_eq_decide.2 (by omega)
 have e2 : decide ((c.toNat : Int) ≤ 122) = decide (c.toNat ≤ 122) := decide_eq_decide.2 (by omega)
 have e3 : decide (65 ≤ (c.toNat : Int)) = decide (65 ≤ c.toNat) := decide_eq_decide.2 (by omega)
 have e4 : decide ((c.toNat : Int) ≤ 90) = decide (c.toNat ≤ 90) := decide_eq_decide.2 (by omega)
 rw [e1, e2, e3, e4]
 simp only [isL]
 cases decide (97 ≤ c.toNat) <;> cases decide (c.toNat ≤ 122) <;> cases decide (65 ≤ c.toNat) <;> rfl
def Kv : Ctr := ctrP true (fun c : UInt8 => [.int .u8 (c.toNat : Int)]) (fun _ => True) (fun c r => r = isL c) (fun _ (r : Bool) => (.bool r, []))
theorem KO : zd Try.prog 61 Kv := by
 refine zm (fn := Try.f61) (c := Try.f61.body.getD .skip) rfl rfl rfl fun c hs O w0 Q hq => ?_
 replace hq := hq _ rfl
 refine zc.run hmix z7 [] 400 (T := .leaf (.ret [.bool (bif bif decide ((97 : Int) ≤ (↑(UInt8.toNat c) : Int)) then decide ((↑(UInt8.toNat c) : Int) ≤ 122) else false then true else bif decide ((65 : Int) ≤ (↑(UInt8.toNat c) : Int)) then decide ((↑(UInt8.toNat c) : Int) ≤ 90) else false)] [])) (by kernel_rfl) ?_
 simp only [Tree.holds, ze]
 refine RetR.scal hq rfl ?_
 simp only [resV]
 rw [UQ]
theorem Qq (c d : UInt8) : decide ((c.toNat : Int) = (d.toNat : Int)) = (c == d) := by
 by_cases h : c = d
 ·subst h; simp
 ·rw [decide_eq_false fun h2 => h (Kj h2)]
  simp [h]
theorem UL (c : UInt8) : (bif decide ((c.toNat : Int) < 48) then true else decide (57 < (c.toNat : Int))) = !isD c := by
 rw [Bool.cond_eq_ite]; exact uX c
theorem YM (c : UInt8) : (bif bif bif !isL c then bif decide ((c.toNat : Int) < 48) then true else decide (57 < (c.toNat : Int)) else false then !decide ((c.toNat : Int) = 95) else false then !decide ((c.toNat : Int) = 45) else false) = !isN c := by
 rw [UL]
 have e1 : decide ((c.toNat : Int) = 95) = (c == 95) := Qq c 95
 have e2 : decide ((c.toNat : Int) = 45) = (c == 45) := Qq c 45
 rw [e1, e2]; simp only [isN]
 cases isL c <;> cases isD c <;> cases (c == 95) <;> cases (c == 45) <;> rfl
def W9 : Ctr := ctrP true (fun s : List UInt8 => [.str s]) (fun s => s.length < 2 ^ 62) (fun s r => r = zI s) (fun _ (r : Bool) => (.bool r, []))
noncomputable def GN1 : Nat → Option Ctr := fun f => if f = 61 then some (Kv) else none
theorem Yf : ∀ g c, GN1 g = some c → zd Try.prog g c := okIf KO (zu)
def SNa (s : List UInt8) (i : Nat) : KV := [(0, .str s), (20, .int .i64 (s.length : Int)), (21, .int .i64 (i : Int)), (31, .undef), (32, .undef), (33, .undef), (34, .undef), (35, .undef), (36, .undef), (39, .undef), (40, .undef), (43, .undef), (44, .undef)]
theorem Xs {O : Nat → Prop} {w0 : World} {Q : AV × Heap → Prop} {Hs : Nat → KV → Heap → Prop} (s : List UInt8) (hs : s.length < 2 ^ 62) (hq : Q (.bool (s.all isN), [])) :
  zc Try.prog Try.f38 O 0 w0 [] Hs (RetR W9 0 Q) (.code (.loop (lps K38 0).1) :: (lps K38 0).2) (mk Try.f38.ntmps (SNa s 0) []) := by
 refine zc.loop (ι := {i : Nat // i ≤ s.length ∧ ∀ j, j < i → isN (s.getD j 0) = true}) (fun i => SNa s i.1) (fun _ => []) (fun i => s.length - i.1) ⟨0, Nat.zero_le _, fun j hj => by omega⟩ 0 ?_ ?_ (by kernel_rfl)
 ·exact ⟨by simp [SNa], by simp, by kernel_rfl, Nat.zero_le _⟩
 ·rintro ⟨i, hil, hib⟩
  refine zc.run hmix Yf [0, 20, 21, 31, 32, 33, 34, 35, 36, 39, 40, 43, 44] 400 (T := .ite (decide ((↑i : Int) < s.length)) (.side ((0 : Int) ≤ i ∧ (↑i : Int) < s.length) (.ex (fun (x : UInt8) => eqL [AV.int .u8 (↑(UInt8.toNat (List.getD s (Int.toNat (↑i : Int)) (0 : UInt8))) : Int)] [AV.int .u8 (↑(UInt8.toNat x) : Int)] ∧ True) fun n => .all (fun (r : Bool) => r = isL n) fun n => .ite (bif bif bif !n then bif decide ((↑(UInt8.toNat (List.getD s (Int.toNat (↑i : Int)) (0 : UInt8))) : Int) < 48) then true else decide ((57 : Int) < (↑(UInt8.toNat (List.getD s (Int.toNat (↑i : Int)) (0 : UInt8))) : Int)) else false then !decide ((↑(UInt8.toNat (List.getD s (Int.toNat (↑i : Int)) (0 : UInt8))) : Int) = 95) else false then !decide ((↑(UInt8.toNat (List.getD s (Int.toNat (↑i : Int)) (0 : UInt8))) : Int) = 45) else false) (.leaf (.ret [.bool false] [])) (.side (inR .i64 ((↑i : Int) + (1 : Int))) (.leaf (.back 0 [(0, .str s), (20, .int .i64 s.length), (21, .int .i64 ((↑i : Int) + (1 : Int))), (31, .undef), (32, .undef), (33, .undef), (34, .undef), (35, .undef), (36, .undef), (39, .undef), (40, .undef), (43, .undef), (44, .undef)] []))))) (.leaf (.ret [.bool true] []))) (by kernel_rfl) ?_
  simp only [Tree.holds, ze, inR, lo, hi, Int.toNat_natCast]
  refine ⟨fun hlt => ?_, fun hge => ?_⟩
  ·have hlt : i < s.length := by have := of_decide_eq_true hlt; omega
   refine ⟨by omega, fun _ => ⟨s.getD i 0, ⟨by simp, trivial⟩, ⟨_, rfl⟩, ?_⟩⟩
   rintro _ rfl
   rw [YM]
   refine ⟨fun h => ?_, fun h => ⟨by omega, fun _ => ?_⟩⟩
   ·rw [Jq hlt (by simpa using h)] at hq
    exact RetR.scal hq rfl (by simp [resV])
   ·rw [if_pos trivial]
    refine ⟨⟨i + 1, hlt, fun j hj => ?_⟩, by show s.length - (i + 1) < s.length - i; omega, by simp [SNa], by simp, by kernel_rfl, Nat.zero_le _⟩
    rcases Nat.lt_or_ge j i with h1 | h1
    ·exact hib j h1
    ·have : j = i := by omega
     rw [this]; simpa using h
  ·have hge : i = s.length := by have := of_decide_eq_false hge; omega
   subst hge
   rw [Us hib] at hq
   exact RetR.scal hq rfl (by simp [resV])
theorem Jg : zd Try.prog 38 W9 := by
 refine zm (fn := Try.f38) (c := Try.f38.body.getD .skip) rfl rfl rfl fun s hs O w0 Q hq => ?_
 replace hq := hq _ rfl
 refine zc.run hmix Yf [0, 20, 21, 31, 32, 33, 34, 35, 36, 39, 40, 43, 44] 400 (T := .side ((bif decide ((↑s.length : Int) < 1) then true else decide ((40 : Int) < s.length)) = false → (0 : Int) ≤ 0 ∧ (0 : Int) < s.length) (.ex (fun (x : UInt8) => (bif decide ((↑s.length : Int) < 1) then true else decide ((40 : Int) < s.length)) = false → eqL [AV.int .u8 (↑(UInt8.toNat (List.getD s 0 (0 : UInt8))) : Int)] [AV.int .u8 (↑(UInt8.toNat x) : Int)] ∧ True) fun n => .all (fun (x : Bool) => (bif decide ((↑s.length : Int) < 1) then true else decide ((40 : Int) < s.length)) = false → x = isL n) fun n => .ite (bif bif decide ((↑s.length : Int) < 1) then true else decide ((40 : Int) < s.length) then true else !n) (.leaf (.ret [.bool false] [])) (.leaf (.loop (Prod.fst (lps K38 0)) (Prod.snd (lps K38 0)) [(0, .str s), (20, .int .i64 s.length), (21, .int .i64 0), (31, .undef), (32, .undef), (33, .undef), (34, .undef), (35, .undef), (36, .undef), (39, .undef), (40, .undef), (43, .undef), (44, .undef)] [])))) (by kernel_rfl) ?_
 simp only [Tree.holds, ze, inR, lo, hi]
 have hd : decide ((s.length : Int) < 1) = !decide (0 < s.length) := by
  by_cases h : 0 < s.length
  ·rw [decide_eq_true h, decide_eq_false (by omega)]; rfl
  ·rw [decide_eq_false h, decide_eq_true (by omega)]; rfl
 have hd2 : decide (40 < (s.length : Int)) = !decide (s.length ≤ 40) := by
  by_cases h : s.length ≤ 40
  ·rw [decide_eq_true h, decide_eq_false (by omega)]; rfl
  ·rw [decide_eq_false h, decide_eq_true (by omega)]; rfl
 rw [hd, hd2]
 have hnb : zI s = (decide (0 < s.length) && decide (s.length ≤ 40) && isL (s.getD 0 0) && s.all isN) := rfl
 cases h1 : decide (0 < s.length) with
 | false =>
  rw [hnb, h1] at hq
  refine ⟨fun h => (by cases h), fun _ => ⟨0, fun h => (by cases h), ⟨false, fun h => (by cases h)⟩, ?_⟩⟩
  intro b _
  exact ⟨fun _ => RetR.scal hq rfl (by simp [resV]), fun h => (by cases h)⟩
 | true =>
  have h1' := of_decide_eq_true h1
  cases h2 : decide (s.length ≤ 40) with
  | false =>
   rw [hnb, h1, h2] at hq
   refine ⟨fun h => (by cases h), fun _ => ⟨0, fun h => (by cases h), ⟨false, fun h => (by cases h)⟩, ?_⟩⟩
   intro b _
   exact ⟨fun _ => RetR.scal hq rfl (by simp [resV]), fun h => (by cases h)⟩
  | true =>
   refine ⟨fun _ => by omega, fun _ => ⟨s.getD 0 0, fun _ => ⟨by simp, trivial⟩, ⟨_, fun _ => rfl⟩, ?_⟩⟩
   intro b hb
   have hb := hb rfl
   subst hb
   cases h3 : isL (s.getD 0 0) with
   | false =>
    rw [hnb, h1, h2, h3] at hq
    exact ⟨fun _ => RetR.scal hq rfl (by simp [resV]), fun h => (by cases h)⟩
   | true =>
    rw [hnb, h1, h2, h3] at hq
    refine ⟨fun h => (by cases h), fun _ => ?_⟩
    exact Xs s hs hq
end Go.Proofs.Try
end

/- Nil slices of a result, handed back as own empty ones. -/
section
namespace Go.Sx
variable [Stat]
section
variable {own own' O : Nat → Prop} {w w' : World} {σ σ' : List SE} {P : Program} {fn : Func}
def upA0 (d k : Nat) : AV → AV → Prop
 | .nils, .osl i _ off n => (d ≤ i ∧ i < d + k) ∧ off = 0 ∧ n = 0
 | a, b => a = b
def upL0 (d k : Nat) : List AV → List AV → Prop
 | [], [] => True
 | a :: l, b :: m => upA0 d k a b ∧ upL0 d k l m
 | _, _ => False
def upA1 (d k : Nat) : AV → AV → Prop
 | .agg l, .agg m => upL0 d k l m
 | a, b => upA0 d k a b
def upL1 (d k : Nat) : List AV → List AV → Prop
 | [], [] => True
 | a :: l, b :: m => upA1 d k a b ∧ upL1 d k l m
 | _, _ => False
def upA2 (d k : Nat) : AV → AV → Prop
 | .tup l, .tup m => upL1 d k l m
 | a, b => upA1 d k a b
def jx (k : Nat) : List SE := List.replicate k ⟨none, 0⟩
theorem xD.mono {g : Nat} {vals : Array Value} {R R' : Value → World → Prop} (hR : ∀ v w', R v w' → R' v w') (h : xD P g vals w R) : xD P g vals w R' := by
 rcases h with ⟨h1, h2⟩ | ⟨v, w', h1, h2⟩
 ·exact .inl ⟨h1, h2.mono fun e w' ⟨v, he, hv⟩ => ⟨v, he, hR v w' hv⟩⟩
 ·exact .inr ⟨v, w', h1, hR v w' h2⟩
theorem q7 {k i : Nat} {e : SE} (h : (σ ++ jx k)[i]? = some e) : (i < σ.length ∧ σ[i]? = some e) ∨ (σ.length ≤ i ∧ e = ⟨none, 0⟩) := by
 rw [List.getElem?_append] at h
 split at h
 ·rename_i hi; exact .inl ⟨hi, h⟩
 ·rename_i hi
  right
  refine ⟨by omega, ?_⟩
  simp only [jx, List.getElem?_replicate] at h
  split at h
  ·cases h; rfl
  ·cases h
theorem Zf {k b : Nat} (h : Mine (σ ++ jx k) b) : Mine σ b := by
 obtain ⟨e, he, ad, h1, h2⟩ := h
 rcases List.mem_append.1 he with he | he
 ·exact ⟨e, he, ad, h1, h2⟩
 ·have := List.eq_of_mem_replicate he
  subst this
  cases h1
theorem yF {k b : Nat} (h : Own O (σ ++ jx k) b) : Own O σ b := by
 rcases h with h | h
 ·exact .inl h
 ·exact .inr (Zf h)
theorem wI (K : List Nat) (w : World) (σ : List SE) (k : Nat) : Hold K w σ w (σ ++ jx k) := fun i e he _ => by
 have hi := (List.getElem?_eq_some_iff.1 he).1
 exact ⟨by rw [List.getElem?_append_left hi]; exact he, fun ad _ cs el h => ⟨cs, el, h, rfl⟩⟩
theorem QB {k : Nat} (hx : Ext own w own' w) {a b : AV} {v : Value} (hu : upA0 σ.length k a b) (ha : Rep own w a σ v) : Rep own' w b (σ ++ jx k) v := by
 unfold upA0 at hu
 split at hu
 ·obtain ⟨⟨h1, h2⟩, rfl, rfl⟩ := hu
  rename_i i sz _ _
  simp only [Rep] at ha ⊢
  refine ⟨⟨none, 0⟩, ?_, by simp, none, 0, ha, Nat.le_refl _, .inl rfl⟩
  rw [List.getElem?_append_right h1, jx, List.getElem?_replicate, if_pos (by omega)]
 ·subst hu
  exact qn (K := []) hx (wI [] w σ k) _ _ (jv _) ha
theorem uH {k : Nat} (hx : Ext own w own' w) : ∀ {l m : List AV} {vs : List Value}, upL0 σ.length k l m → RepL own w l σ vs → RepL own' w m (σ ++ jx k) vs
 | [], [], vs, _, h => by simpa [RepL] using h
 | a :: l, b :: m, vs, hl, h => by
  simp only [RepL] at h ⊢
  obtain ⟨v, r, hv, h1, h2⟩ := h
  exact ⟨v, r, hv, QB hx hl.1 h1, uH hx hl.2 h2⟩
 | [], _ :: _, _, hl, _ => hl.elim
 | _ :: _, [], _, hl, _ => hl.elim
theorem ZQ {k : Nat} (hx : Ext own w own' w) {a b : AV} {v : Value} (hu : upA1 σ.length k a b) (ha : Rep own w a σ v) : Rep own' w b (σ ++ jx k) v := by
 unfold upA1 at hu
 split at hu
 ·simp only [Rep] at ha ⊢
  obtain ⟨vs, hv, hr⟩ := ha
  exact ⟨vs, hv, uH hx hu hr⟩
 ·exact QB hx hu ha
theorem xe {k : Nat} (hx : Ext own w own' w) : ∀ {l m : List AV} {vs : List Value}, upL1 σ.length k l m → RepL own w l σ vs → RepL own' w m (σ ++ jx k) vs
 | [], [], vs, _, h => by simpa [RepL] using h
 | a :: l, b :: m, vs, hl, h => by
  simp only [RepL] at h ⊢
  obtain ⟨v, r, hv, h1, h2⟩ := h
  exact ⟨v, r, hv, ZQ hx hl.1 h1, xe hx hl.2 h2⟩
 | [], _ :: _, _, hl, _ => hl.elim
 | _ :: _, [], _, hl, _ => hl.elim
theorem Qm {k : Nat} (hx : Ext own w own' w) {a b : AV} {v : Value} (hu : upA2 σ.length k a b) (ha : Rep own w a σ v) : Rep own' w b (σ ++ jx k) v := by
 unfold upA2 at hu
 split at hu
 ·simp only [Rep] at ha ⊢
  obtain ⟨vs, hv, hr⟩ := ha
  exact ⟨vs, hv, xe hx hu hr⟩
 ·exact ZQ hx hu ha
def vQ (szs : List (Nat × (Nat → Nat → AV))) : Heap := szs.map fun s => .arr 0 s.1 s.2
theorem zav (hx : Ext own w own' w) {hs : Heap} (hh : HRep own w σ hs) (szs : List (Nat × (Nat → Nat → AV))) : HRep own' w (σ ++ jx szs.length) (hs ++ vQ szs) := by
 have hl := hh.len
 refine ⟨by simp [jx, vQ, hl], fun i j e f a b he hf ha hb hij => ?_, fun i e a he ha => ?_, fun i e b he hb => ?_⟩
 ·rcases q7 he with ⟨_, he⟩ | ⟨_, rfl⟩
  ·rcases q7 hf with ⟨_, hf⟩ | ⟨_, rfl⟩
   ·exact hh.inj i j e f a b he hf ha hb hij
   ·cases hb
  ·cases ha
 ·rcases q7 he with ⟨_, he⟩ | ⟨_, rfl⟩
  ·exact hh.lt i e a he ha
  ·cases ha
 ·rcases q7 he with ⟨hi, he⟩ | ⟨hi, rfl⟩
  ·rw [List.getElem?_append_left (by omega)] at hb
   have := q5 (K := []) hx (wI [] w σ szs.length) (hh.blk i e b he hb) (fun _ _ => rfl)
   rwa [qE] at this
  ·rw [List.getElem?_append_right (by omega)] at hb
   simp only [vQ, List.getElem?_map] at hb
   cases hz : szs[i - hs.length]? with
   | none => simp [hz] at hb
   | some s =>
    simp only [hz, Option.map_some, Option.some.injEq] at hb
    subst hb
    exact ⟨rfl, .inl rfl⟩
def upQ (Q : AV × Heap → Prop) (p : AV × Heap) : Prop := Q p ∨ ∃ (r : AV) (szs : List (Nat × (Nat → Nat → AV))), upA2 p.2.length szs.length p.1 r ∧ Q (r, p.2 ++ vQ szs)
theorem qh.up {g : Nat} {c : Ctr} {args : List AV} {hc : Heap} {Q : AV × Heap → Prop} (h : qh P g c args hc (upQ Q)) : qh P g c args hc Q := by
 intro O w σ vals hg hh hr
 refine xD.mono ?_ (h O w σ vals hg hh hr)
 rintro v w' ⟨r, hs, σ', hq, h1, h2, h3, h4, h5, h6⟩
 rcases hq with hq | ⟨r', szs, hu, hq⟩
 ·exact ⟨r, hs, σ', hq, h1, h2, h3, h4, h5, h6⟩
 ·have hx : Ext (fun b => Own O σ' b ∨ (c.fresh = true ∧ b < w.heap.size)) w' (fun b => Own O (σ' ++ jx szs.length) b ∨ (c.fresh = true ∧ b < w.heap.size)) w' :=
   ⟨rfl, rfl, rfl, Nat.le_refl _, fun _ _ _ => rfl, fun b hb => .inl (hb.imp yF id)⟩
  have hl : hs.length = σ'.length := h2.len.symm
  refine ⟨r', hs ++ vQ szs, σ' ++ jx szs.length, hq, Qm hx (by rw [← hl]; exact hu) h1, zav hx h2 szs, ⟨h3.old, fun i e ad he had => ?_, h3.stat.own fun b hb => yF hb⟩, by simp; omega, h5.WG (wI [] w' σ' _), ?_⟩
  ·rcases q7 he with ⟨_, he⟩ | ⟨_, rfl⟩
   ·exact h3.dis i e ad he had
   ·cases had
  ·exact ⟨h6.os, h6.tape, h6.output, h6.size, h6.keep, fun b hb => h6.grow b (Zf hb)⟩
theorem vW {X R : Type} {fresh : Bool} {inp : X → List AV} {pre : X → Prop} {post : X → R → Prop} {out : X → R → AV × Heap} {g : Nat} {c : Code} (hf : P.funcs[g]? = some fn) (hb : fn.body = some c) (hn : (fn.name == "runtime.NumGoroutine") = false)
  (H : ∀ x, pre x → ∀ (O : Nat → Prop) (w0 : World) (Q : AV × Heap → Prop), (∀ r, post x r → Q (out x r)) →
   zc P fn O 0 w0 [] (fun _ _ _ => False) (RetR (ctrP fresh inp pre post out) 0 (upQ Q)) [.code c] (entry fn (inp x))) : zd P g (ctrP fresh inp pre post out) := by
 intro args hc Q hq _
 simp only [ctrP] at hq
 split at hq
 ·obtain ⟨x, ⟨h1, h4⟩, h5, h6⟩ := hq
  refine qh.le h1 (qh.up (fn_k hf hb hn (fun h => rfl) fun O w0 σ0 hl => ?_))
  have h0 : σ0 = [] := List.length_eq_zero_iff.1 (by simpa using hl)
  subst h0
  exact H x h4 O w0 Q h6
 ·exact hq.elim
def upKV (d k : Nat) : KV → KV → Prop
 | [], [] => True
 | (i, a) :: l, (j, b) :: m => i = j ∧ upA2 d k a b ∧ upKV d k l m
 | _, _ => False
def upB (d k : Nat) : Blk → Blk → Prop
 | .box l, .box m => upL1 d k l m
 | a, b => a = b
def upH (d k : Nat) : Heap → Heap → Prop
 | [], [] => True
 | b :: l, c :: m => upB d k b c ∧ upH d k l m
 | _, _ => False
theorem ZZ {d k : Nat} : ∀ {l m : KV} (t : Nat), upKV d k l m → upA2 d k (look l t) (look m t)
 | [], [], t, _ => by simp [look, upA2, upA1, upA0]
 | (i, a) :: l, (j, b) :: m, t, h => by
  obtain ⟨rfl, h1, h2⟩ := h
  simp only [look]
  split
  ·exact h1
  ·exact ZZ t h2
 | [], _ :: _, _, h => h.elim
 | _ :: _, [], _, h => h.elim
theorem VT {d k : Nat} : ∀ {l m : Heap}, upH d k l m → l.length = m.length
 | [], [], _ => rfl
 | _ :: l, _ :: m, h => by simp [VT h.2]
 | [], _ :: _, h => h.elim
 | _ :: _, [], h => h.elim
theorem K0 {d k : Nat} : ∀ {l m : Heap} {i : Nat} {b' : Blk}, upH d k l m → m[i]? = some b' → ∃ b, l[i]? = some b ∧ upB d k b b'
 | b :: l, c :: m, 0, b', h, h1 => by simp at h1; subst h1; exact ⟨b, rfl, h.1⟩
 | b :: l, c :: m, i + 1, b', h, h1 => by simpa using K0 h.2 (by simpa using h1)
 | [], [], _, _, _, h1 => by simp at h1
 | [], _ :: _, _, _, h, _ => h.elim
 | _ :: _, [], _, _, h, _ => h.elim
theorem Xh {k : Nat} (hx : Ext own w own' w) {e : SE} {b b' : Blk} (hu : upB σ.length k b b') (hb : BRep own w σ e b) : BRep own' w (σ ++ jx k) e b' := by
 unfold upB at hu
 split at hu
 ·simp only [BRep] at hb ⊢
  obtain ⟨ad, vs, el, h1, h2, h3, h4⟩ := hb
  exact ⟨ad, vs, el, h1, h2, h3, xe hx hu h4⟩
 ·subst hu
  have := q5 (K := []) hx (wI [] w σ k) hb (fun _ _ => rfl)
  rwa [qE] at this
variable {pin : Nat} {w0 : World} {σ0 : List SE} {a : Act}
theorem up_mod {kv kv2 : KV} {h h2 : Heap} {n : Nat} (hm : Mod O pin w0 σ0 w σ (mk n kv h) a) {szs : List (Nat × (Nat → Nat → AV))} (hkv : upKV h.length szs.length kv kv2) (hh2 : upH h.length szs.length h h2) (hno : (pk n kv).all qf = true) (hno2 : (pk n kv2).all qf = true) : Mod O pin w0 σ0 w (σ ++ jx szs.length) (mk n kv2 (h2 ++ vQ szs)) a := by
 have hx : Ext (Own O σ) w (Own O (σ ++ jx szs.length)) w := ⟨rfl, rfl, rfl, Nat.le_refl _, fun _ _ _ => rfl, fun b hb => .inl (yF hb)⟩
 have hl : h.length = σ.length := hm.hp.len.symm
 rw [hl] at hkv hh2
 have hl2 := VT hh2
 refine ⟨⟨hm.good.old, fun i e ad he had => ?_, hm.good.stat.ext hx⟩, ?_, by simp [hm.size, mk, pk], fun u => ?_, hm.df.ext hx, hm.since.trans ⟨hx, fun _ _ _ => rfl, wx.of (wI [] w σ _) (by simp)⟩, hm.lim⟩
 ·rcases q7 he with ⟨_, he⟩ | ⟨_, rfl⟩
  ·exact hm.good.dis i e ad he had
  ·cases had
 ·have hh := hm.hp
  refine ⟨by simp [mk, jx, vQ, ← hl2, hl], fun i j e f x y he hf ha hb hij => ?_, fun i e x he ha => ?_, fun i e b he hb => ?_⟩
  ·rcases q7 he with ⟨_, he⟩ | ⟨_, rfl⟩
   ·rcases q7 hf with ⟨_, hf⟩ | ⟨_, rfl⟩
    ·exact hh.inj i j e f x y he hf ha hb hij
    ·cases hb
   ·cases ha
  ·rcases q7 he with ⟨_, he⟩ | ⟨_, rfl⟩
   ·exact hh.lt i e x he ha
   ·cases ha
  ·simp only [mk] at hb
   rcases q7 he with ⟨hi, he⟩ | ⟨hi, rfl⟩
   ·rw [List.getElem?_append_left (by omega)] at hb
    obtain ⟨b0, h1, h3⟩ := K0 hh2 hb
    exact Xh hx h3 (hh.blk i e b0 he h1)
   ·rw [List.getElem?_append_right (by omega)] at hb
    simp only [vQ, List.getElem?_map] at hb
    cases hz : szs[i - h2.length]? with
    | none => simp [hz] at hb
    | some s =>
     simp only [hz, Option.map_some, Option.some.injEq] at hb
     subst hb
     exact ⟨rfl, .inl rfl⟩
 ·have hu := hm.tm u
  have key : ∀ (kv : KV) (h : Heap), (pk n kv).all qf = true → qf ((mk n kv h).tmps.getD u .undef) = true := by
   intro kv h hno
   by_cases hlt : u < (mk n kv h).tmps.length
   ·simp only [List.getD, List.getElem?_eq_getElem hlt, Option.getD_some]
    exact List.all_eq_true.1 hno _ (List.getElem_mem hlt)
   ·simp only [List.getD]
    rw [List.getElem?_eq_none (by omega)]; rfl
  have n1 := key kv h hno
  have n2 := key kv2 (h2 ++ vQ szs) hno2
  have hr : Rep (Own O σ) w ((mk n kv h).tmps.getD u .undef) σ (a.tmps.getD u undef) := by
   generalize (mk n kv h).tmps.getD u .undef = x at hu n1
   cases x with
   | opt _ _ _ => simp [qf] at n1
   | _ => simpa only [TRep] using hu
  have hup : upA2 σ.length szs.length ((mk n kv h).tmps.getD u .undef) ((mk n kv2 (h2 ++ vQ szs)).tmps.getD u .undef) := by
   by_cases hlt : u < n
   ·simp only [mk]
    rw [wL hlt, wL hlt]
    exact ZZ u hkv
   ·simp [mk, pk, List.getD, hlt, upA2, upA1, upA0]
  have := Qm hx hup hr
  generalize (mk n kv2 (h2 ++ vQ szs)).tmps.getD u .undef = y at this n2
  cases y with
  | opt _ _ _ => simp [qf] at n2
  | _ => simpa only [TRep] using this
theorem zc.up {M : Option Nat} {Hs : Nat → KV → Heap → Prop} {R : List AV → Heap → Prop} {k : List Item} {kv : KV} {h : Heap} (szs : List (Nat × (Nat → Nat → AV))) (kv2 : KV) (h2 : Heap) (hkv : upKV h.length szs.length kv kv2) (hh2 : upH h.length szs.length h h2) (hno : (pk fn.ntmps kv).all qf = true) (hno2 : (pk fn.ntmps kv2).all qf = true)
  (H : qA M P fn O pin w0 σ0 Hs R k (mk fn.ntmps kv2 (h2 ++ vQ szs))) : qA M P fn O pin w0 σ0 Hs R k (mk fn.ntmps kv h) :=
 fun w σ a hm => H w _ a (up_mod hm hkv hh2 hno hno2)
theorem RetR.outs {ctr : Ctr} {Q : AV × Heap → Prop} {rs : List AV} {h : Heap} {r : AV} {hs : Heap} (L : List Nat) (hnd : jD L = true) (hlt : (L.all fun i => decide (i < h.length)) = true) (hq : Q (r, hs)) (hn : ctr.fresh = true → new2 h L (resV rs) ∧ ∀ i ∈ L, newB (h.getD i .dead))
  (he : eqA2 (exp2 h L (resV rs)) r) (hb : eqH (expH h L) hs) (hl : hs.length = L.length) : RetR ctr 0 Q rs h :=
 ⟨L, hnd, fun i hi => by have := List.all_eq_true.1 hlt i hi; simpa using this, by simp, hn, r, hs, zN he, hb, hl, hq⟩
theorem RetR.keep {ctr : Ctr} {m : Nat} {Q : AV × Heap → Prop} {rs : List AV} {h : Heap} {r : AV} {hs : Heap} (L : List Nat) (hnd : jD L = true) (hlt : (L.all fun i => decide (i < h.length)) = true) (hj : ∀ j, j < m → L[j]? = some j) (hf : ctr.fresh = false) (hq : Q (r, hs))
  (he : eqA2 (exp2 h L (resV rs)) r) (hb : eqH (expH h L) hs) (hl : hs.length = L.length) : RetR ctr m Q rs h :=
 ⟨L, hnd, fun i hi => by have := List.all_eq_true.1 hlt i hi; simpa using this, hj, (fun hh => absurd hh (by rw [hf]; decide)), r, hs, zN he, hb, hl, hq⟩
end
end Go.Sx
end

/- Arguments that say no less than a contract asks. -/
section
namespace Go.Sx
variable [Stat]
section
variable {P : Program}
theorem Q5 (a : AV) : eqA0 a a := by
 cases a <;> simp [eqA0]
 exact fun _ _ _ _ => rfl
theorem yn : ∀ l : List AV, eqL0 l l
 | [] => trivial
 | a :: l => ⟨Q5 a, yn l⟩
theorem Yp (a : AV) : eqA a a := by
 cases a with
 | agg l => exact yn l
 | tup l => exact yn l
 | _ => unfold eqA; exact Q5 _
theorem Zk : ∀ l : List AV, eqL l l
 | [] => trivial
 | a :: l => by
  unfold eqL
  split
  ·rename_i h1 h2; cases h1
  ·rename_i h1 h2; cases h1; cases h2; exact Zk l
  ·rename_i h1 h2; cases h1; cases h2; exact ⟨Yp _, Zk l⟩
  ·rename_i hx; exact (hx _ _ _ _ rfl rfl).elim
end
end Go.Sx
end

/- A contract that is the callee's own run: for small functions without loops. -/
section
namespace Go.Sx
variable [Stat]
section
variable {P : Program} {Γ : Nat → Option Ctr} {fn : Func}
def inlC (P : Program) (Γ : Nat → Option Ctr) (n : Nat) (fn : Func) : Ctr where
 fresh := false
 spec args hc := match fn.body with
  | some c => (run P Γ hc.length n [.code c] (vH fn args hc)).bind fun lf => match lf with
   | .ret st => (resX P st fn.results.toList).bind fun rs => bif decide (hc.length ≤ st.heap.length) then .leaf (exp2 st.heap (List.range st.heap.length) (resV rs), expH st.heap (List.range st.heap.length)) else .fail
   | _ => .fail
  | none => .fail
theorem nodup_range' : ∀ (n s : Nat), jD (List.range' s n) = true
 | 0, _ => rfl
 | n + 1, s => by
  rw [List.range'_succ]
  simp only [jD, Bool.and_eq_true]
  refine ⟨?_, nodup_range' n (s + 1)⟩
  simp [List.contains_eq_mem, List.mem_range'_1]
theorem KW (b : Blk) : eqB b b := by
 cases b with
 | dead => trivial
 | box l => exact Zk l
 | arr n sz g => exact ⟨rfl, rfl, fun _ _ _ _ => rfl⟩
 | arrI k n f => exact ⟨rfl, fun _ _ _ _ => rfl⟩
 | arrS n f => exact ⟨rfl, fun _ _ _ _ => rfl⟩
 | map ag sh has get pe => exact ⟨⟨rfl, .inr rfl⟩, rfl, fun _ => rfl, fun _ _ => rfl⟩
theorem KP (h : Heap) : eqH h h := by
 induction h with
 | nil => trivial
 | cons b l ih => exact ⟨KW b, ih⟩
theorem QJ {g n : Nat} (hmix : P.follows .mixedOrders = true) (hΓ : ∀ g c, Γ g = some c → zd P g c) (hf : P.funcs[g]? = some fn) (hn : (fn.name == "runtime.NumGoroutine") = false) : zd P g (inlC P Γ n fn) := by
 intro args hc Q hq hfr
 simp only [inlC] at hq
 cases hb : fn.body with
 | none => rw [hb] at hq; exact hq.elim
 | some c =>
  rw [hb] at hq
  simp only [Tree.zl] at hq
  refine zbf hf hb hn hfr fun O w0 σ0 hl => Safe.run hmix hΓ n (Tree.zJ (fun lf h => ?_) hq)
  cases lf with
  | ret st =>
   simp only [Tree.zl] at h
   refine Tree.zJ (fun rs h => ?_) h
   cases hd : decide (hc.length ≤ st.heap.length) with
   | false => rw [hd] at h; exact h.elim
   | true =>
    rw [hd] at h
    have h : Q (exp2 st.heap (List.range st.heap.length) (resV rs), expH st.heap (List.range st.heap.length)) := h
    have hd := of_decide_eq_true hd
    exact ⟨List.range st.heap.length, by rw [List.range_eq_range']; exact nodup_range' _ _, fun i hi => List.mem_range.1 hi, fun j hj => by rw [List.getElem?_range (by omega)], fun h => (by cases h), _, _, LeA.refl _, KP _, by simp [expH], h⟩
  | _ => exact h.elim
end
end Go.Sx
end

/- Orders of what is known. -/
section
namespace Go.Nov
open Go.Sx
def cmpS (s t : List UInt8) : Int := if Op.bytesLess s t then -1 else if s = t then 0 else 1
def cmpI (x y : Int) : Int := if x < y then -1 else if y < x then 1 else 0
def orI : List Int → Int
 | [] => 0
 | x :: l => if x = 0 then orI l else x
structure Fx where
 name : List UInt8
 date : Int
 value : List UInt8
structure Ch where
 zb : List UInt8
 name : List UInt8
 date : Int
 first : Bool
abbrev Fx.nil : Fx := ⟨[], 0, []⟩
abbrev Ch.nil : Ch := ⟨[], [], 0, false⟩
def Fx.cell (f : Fx) : Nat → AV
 | 0 => .str f.name
 | 1 => .int .i64 f.date
 | 2 => .str f.value
 | _ => .undef
def Ch.cell (c : Ch) : Nat → AV
 | 0 => .str c.zb
 | 1 => .str c.name
 | 2 => .int .i64 c.date
 | 3 => .bool c.first
 | _ => .undef
def fxG (l : List Fx) : Nat → Nat → AV := fun j => (l.getD j Fx.nil).cell
def chG (l : List Ch) : Nat → Nat → AV := fun j => (l.getD j Ch.nil).cell
def Fx.av (f : Fx) : AV := .agg [.str f.name, .int .i64 f.date, .str f.value]
def Ch.av (c : Ch) : AV := .agg [.str c.zb, .str c.name, .int .i64 c.date, .bool c.first]
def fxS (l : List Fx) : AV := .sl l.length 3 (fxG l)
def chS (l : List Ch) : AV := .sl l.length 4 (chG l)
def envA (f : List Fx) (c : List Ch) : AV := .agg [fxS f, chS c]
def cmpF (a b : Fx) : Int := if cmpS a.name b.name = 0 then cmpI a.date b.date else cmpS a.name b.name
def cmpC (a b : Ch) : Int := if cmpS a.zb b.zb = 0 then (if cmpS a.name b.name = 0 then cmpI a.date b.date else cmpS a.name b.name) else cmpS a.zb b.zb
end Go.Nov
namespace Go.Nov
def okF (f : Fx) : Bool := zI f.name && dayB f.date && decide (errR f.value = 0)
def okC (c : Ch) : Bool := zI c.zb && zI c.name && dayB c.date
def idxB {α : Type} (p : α → Bool) (l : List α) : Int := if l.findIdx p < l.length then (l.findIdx p : Int) else -1
theorem JE {α : Type} (p : α → Bool) (l : List α) : decide (0 ≤ idxB p l) = l.any p := by
 unfold idxB
 by_cases h : l.findIdx p < l.length
 ·rw [if_pos h]
  have : l.any p = true := by
   rw [List.any_eq_true]
   exact ⟨_, List.getElem_mem h, List.findIdx_getElem (w := h)⟩
  rw [this]; simp
 ·rw [if_neg h]
  have : l.any p = false := by
   rw [List.any_eq_false]
   intro x hx hpx
   exact h (List.findIdx_lt_length_of_exists ⟨x, hx, hpx⟩)
  rw [this]; rfl
theorem xL {α : Type} {p : α → Bool} {l : List α} {z : α} {i : Nat} (hi : i < l.length) (h : p (l.getD i z) = true) (hb : ∀ j, j < i → p (l.getD j z) = false) : idxB p l = i := by
 have hlt : l.findIdx p < l.length := List.findIdx_lt_length_of_exists ⟨l[i], List.getElem_mem hi, by simpa [List.getD, hi] using h⟩
 have e : l.findIdx p = i := by
  rcases Nat.lt_trichotomy (l.findIdx p) i with h1 | h1 | h1
  ·have h2 := List.findIdx_getElem (w := hlt)
   have h3 := hb _ h1
   simp only [List.getD, List.getElem?_eq_getElem hlt, Option.getD_some] at h3
   rw [h2] at h3; cases h3
  ·exact h1
  ·have h2 := List.not_of_lt_findIdx h1
   simp only [List.getD, List.getElem?_eq_getElem hi, Option.getD_some] at h
   exact absurd h (by simpa using h2)
 unfold idxB
 rw [if_pos hlt, e]
theorem vf {α : Type} {p : α → Bool} {l : List α} {z : α} (hb : ∀ j, j < l.length → p (l.getD j z) = false) : idxB p l = -1 := by
 unfold idxB
 rw [if_neg]
 intro h
 have h2 := List.findIdx_getElem (w := h)
 have h3 := hb _ h
 simp only [List.getD, List.getElem?_eq_getElem h, Option.getD_some] at h3
 rw [h2] at h3; cases h3
end Go.Nov
namespace Go.Nov
def ordB {α : Type} (c : α → α → Int) (z : α) (l : List α) : Bool := (List.range (l.length - 1)).all fun i => decide (c (l.getD i z) (l.getD (i + 1) z) < 0)
theorem Zh {α : Type} {c : α → α → Int} {z : α} {l : List α} (h : ∀ j, j + 1 < l.length → c (l.getD j z) (l.getD (j + 1) z) < 0) : ordB c z l = true := by
 simp only [ordB, List.all_eq_true, List.mem_range, decide_eq_true_eq]
 exact fun j hj => h j (by omega)
theorem JA {α : Type} {c : α → α → Int} {z : α} {l : List α} {j : Nat} (hj : j + 1 < l.length) (h : ¬ c (l.getD j z) (l.getD (j + 1) z) < 0) : ordB c z l = false := by
 simp only [ordB, List.all_eq_false, List.mem_range]
 exact ⟨j, by omega, by simpa using h⟩
def errE (f : List Fx) (c : List Ch) : Int := if 1000 < f.length ∨ 1000 < c.length then 4 else if (f.all okF && c.all okC && ordB cmpF Fx.nil f && ordB cmpC Ch.nil c) = true then 0 else 8
end Go.Nov
namespace Go.Nov
theorem zas {x y : Int} : cmpI x y < 0 ↔ x < y := by
 unfold cmpI
 split
 ·rename_i h; exact ⟨fun _ => h, fun _ => by decide⟩
 ·rename_i h
  split
  ·exact ⟨fun h2 => by omega, fun h2 => absurd h2 h⟩
  ·exact ⟨fun h2 => by omega, fun h2 => absurd h2 h⟩
end Go.Nov
namespace Go.Nov
theorem Fx.eq_iff {a b : Fx} : (decide (a.name = b.name) && (decide (a.date = b.date) && (decide (a.value = b.value) && true))) = true ↔ a = b := by
 cases a; cases b
 simp [Fx.mk.injEq]
theorem Ch.eq_iff {a b : Ch} : (decide (a.zb = b.zb) && (decide (a.name = b.name) && (decide (a.date = b.date) && ((a.first == b.first) && true)))) = true ↔ a = b := by
 cases a; cases b
 simp [Ch.mk.injEq]
theorem JY {α : Type} {l m : List α} {z : α} (hl : l.length = m.length) (h : ∀ j, j < l.length → l.getD j z = m.getD j z) : l = m := by
 apply List.ext_getElem hl
 intro j h1 h2
 have := h j h1
 simpa [List.getD, h1, h2] using this
end Go.Nov
end

/- A place in an ordered list. -/
section
namespace Go.Nov
open Go.Sx
theorem Jb : ∀ s : List UInt8, Op.bytesLess s s = false
 | [] => rfl
 | a :: s => by simp [Op.bytesLess, Jb s]
theorem xH : ∀ {s t u : List UInt8}, Op.bytesLess s t = true → Op.bytesLess t u = true → Op.bytesLess s u = true
 | s, [], u, h, _ => by cases s <;> simp [Op.bytesLess] at h
 | [], b :: t, [], _, h => by simp [Op.bytesLess] at h
 | [], b :: t, c :: u, _, _ => rfl
 | a :: s, b :: t, [], _, h => by simp [Op.bytesLess] at h
 | a :: s, b :: t, c :: u, h, k => by
  simp only [Op.bytesLess, Bool.or_eq_true, Bool.and_eq_true, decide_eq_true_eq, beq_iff_eq] at h k ⊢
  rcases h with h | ⟨rfl, h⟩
  ·rcases k with k | ⟨rfl, k⟩
   ·exact .inl (UInt8.lt_trans h k)
   ·exact .inl h
  ·rcases k with k | ⟨rfl, k⟩
   ·exact .inl k
   ·exact .inr ⟨rfl, xH h k⟩
theorem VY {s t : List UInt8} : cmpS s t < 0 ↔ Op.bytesLess s t = true := by
 unfold cmpS
 cases Op.bytesLess s t with
 | true => simp
 | false => by_cases h : s = t <;> simp [h]
theorem jL {s t : List UInt8} : cmpS s t = 0 ↔ s = t := by
 unfold cmpS
 cases hb : Op.bytesLess s t with
 | true =>
  simp only [if_true]
  refine ⟨fun h => by omega, fun h => ?_⟩
  subst h; rw [Jb] at hb; cases hb
 | false => by_cases h : s = t <;> simp [h]
theorem VX {x y : Int} : cmpI x y = 0 ↔ x = y := by
 unfold cmpI
 split
 ·exact ⟨fun h => by omega, fun h => by omega⟩
 ·split
  ·exact ⟨fun h => by omega, fun h => by omega⟩
  ·exact ⟨fun _ => by omega, fun _ => rfl⟩
theorem qX {a b : Fx} : cmpF a b = 0 ↔ a.name = b.name ∧ a.date = b.date := by
 unfold cmpF
 by_cases h : cmpS a.name b.name = 0
 ·rw [if_pos h, VX]; exact ⟨fun h2 => ⟨jL.1 h, h2⟩, fun h2 => h2.2⟩
 ·rw [if_neg h]; exact ⟨fun h2 => absurd h2 h, fun h2 => absurd (jL.2 h2.1) h⟩
theorem kF {a b : Fx} : cmpF a b < 0 ↔ Op.bytesLess a.name b.name = true ∨ a.name = b.name ∧ a.date < b.date := by
 unfold cmpF
 by_cases h : cmpS a.name b.name = 0
 ·rw [if_pos h, zas]
  have h2 := jL.1 h
  rw [h2, Jb]
  simp
 ·rw [if_neg h, VY]
  exact ⟨fun h2 => .inl h2, fun h2 => h2.elim id fun h3 => absurd (jL.2 h3.1) h⟩
theorem qZ {a b : Ch} : cmpC a b = 0 ↔ a.zb = b.zb ∧ a.name = b.name ∧ a.date = b.date := by
 unfold cmpC
 by_cases h : cmpS a.zb b.zb = 0
 ·rw [if_pos h]
  have h1 := jL.1 h
  by_cases h' : cmpS a.name b.name = 0
  ·rw [if_pos h', VX]; exact ⟨fun h2 => ⟨h1, jL.1 h', h2⟩, fun h2 => h2.2.2⟩
  ·rw [if_neg h']; exact ⟨fun h2 => absurd h2 h', fun h2 => absurd (jL.2 h2.2.1) h'⟩
 ·rw [if_neg h]; exact ⟨fun h2 => absurd h2 h, fun h2 => absurd (jL.2 h2.1) h⟩
theorem xM {a b : Ch} : cmpC a b < 0 ↔ Op.bytesLess a.zb b.zb = true ∨ a.zb = b.zb ∧ (Op.bytesLess a.name b.name = true ∨ a.name = b.name ∧ a.date < b.date) := by
 unfold cmpC
 by_cases h : cmpS a.zb b.zb = 0
 ·rw [if_pos h]
  have h1 := jL.1 h
  rw [h1, Jb]
  have := @kF ⟨a.name, a.date, []⟩ ⟨b.name, b.date, []⟩
  simp only [cmpF] at this
  simpa using this
 ·rw [if_neg h, VY]
  exact ⟨fun h2 => .inl h2, fun h2 => h2.elim id fun h3 => absurd (jL.2 h3.1) h⟩
structure OrdK {α : Type} (c : α → α → Int) : Prop where
 lt : ∀ a b d, c a b < 0 → c b d < 0 → c a d < 0
 eq : ∀ a b d, c a b < 0 → c b d = 0 → c a d < 0
theorem QU : OrdK cmpF where
 lt a b d h k := by
  rw [kF] at *
  rcases h with h | ⟨h1, h2⟩
  ·rcases k with k | ⟨k1, k2⟩
   ·exact .inl (xH h k)
   ·rw [k1] at h; exact .inl h
  ·rcases k with k | ⟨k1, k2⟩
   ·rw [← h1] at k; exact .inl k
   ·exact .inr ⟨h1.trans k1, by omega⟩
 eq a b d h k := by
  rw [qX] at k
  rw [kF] at *
  rw [k.1, k.2] at h
  exact h
theorem J5 : OrdK cmpC where
 lt a b d h k := by
  rw [xM] at *
  rcases h with h | ⟨h0, h⟩
  ·rcases k with k | ⟨k0, k⟩
   ·exact .inl (xH h k)
   ·rw [k0] at h; exact .inl h
  ·rcases k with k | ⟨k0, k⟩
   ·rw [← h0] at k; exact .inl k
   ·refine .inr ⟨h0.trans k0, ?_⟩
    rcases h with h | ⟨h1, h2⟩
    ·rcases k with k | ⟨k1, k2⟩
     ·exact .inl (xH h k)
     ·rw [k1] at h; exact .inl h
    ·rcases k with k | ⟨k1, k2⟩
     ·rw [← h1] at k; exact .inl k
     ·exact .inr ⟨h1.trans k1, by omega⟩
 eq a b d h k := by
  rw [qZ] at k
  rw [xM] at *
  rw [k.1, k.2.1, k.2.2] at h
  exact h
section
variable {α : Type} {c : α → α → Int} {z x : α}
def zh (c : α → α → Int) (x : α) : List α → List α
 | [] => [x]
 | o :: l => if c o x < 0 then o :: zh c x l else if c o x = 0 then x :: l else x :: o :: l
theorem xK (hk : OrdK c) : ∀ {l : List α}, ordB c z l = true → l.Pairwise fun a b => c a b < 0
 | [], _ => .nil
 | [a], _ => by simp
 | a :: b :: l, h => by
  have h1 : c a b < 0 := by
   simp only [ordB, List.all_eq_true, List.mem_range, decide_eq_true_eq] at h
   have := h 0 (by simp)
   simpa using this
  have h2 : ordB c z (b :: l) = true := by
   simp only [ordB, List.all_eq_true, List.mem_range, decide_eq_true_eq] at h ⊢
   intro i hi
   have := h (i + 1) (by simp at hi ⊢; omega)
   simpa using this
  have ih := xK hk h2
  refine List.pairwise_cons.2 ⟨fun y hy => ?_, ih⟩
  rcases List.mem_cons.1 hy with rfl | hy
  ·exact h1
  ·exact hk.lt _ _ _ h1 (List.rel_of_pairwise_cons ih hy)
theorem yC (hk : OrdK c) : ∀ {l : List α} {k : Nat}, l.Pairwise (fun a b => c a b < 0) → k < l.length → c (l.getD k z) x = 0 → l.set k x = zh c x l
 | [], k, _, h, _ => by simp at h
 | o :: l, 0, _, _, h => by
  simp only [List.getD_cons_zero] at h
  simp only [List.set_cons_zero, zh]
  rw [if_neg (by omega), if_pos h]
 | o :: l, k + 1, hp, hl, h => by
  simp only [List.getD_cons_succ] at h
  have hl : k < l.length := by simpa using hl
  have ih := yC hk (List.pairwise_cons.1 hp).2 hl h
  have ho : c o (l.getD k z) < 0 := List.rel_of_pairwise_cons hp (by simp [List.getD, hl])
  simp only [List.set_cons_succ, zh]
  rw [if_pos (hk.eq _ _ _ ho h), ih]
theorem yi : ∀ {l : List α} {i : Nat}, (∀ j, j < l.length → c (l.getD j z) x ≠ 0) → (∀ j, j < i → c (l.getD j z) x < 0) → i ≤ l.length → (i < l.length → ¬ c (l.getD i z) x < 0) → l.take i ++ x :: l.drop i = zh c x l
 | [], i, _, _, hi, _ => by
  have : i = 0 := by simpa using hi
  subst this; rfl
 | o :: l, 0, h0, _, _, h => by
  have h1 := h (by simp)
  have h2 := h0 0 (by simp)
  simp only [List.getD_cons_zero] at h1 h2
  simp only [zh]
  rw [if_neg h1, if_neg h2]; rfl
 | o :: l, i + 1, h0, hb, hi, h => by
  have h1 := hb 0 (by omega)
  simp only [List.getD_cons_zero] at h1
  have ih := yi (l := l) (i := i) (fun j hj => by have := h0 (j + 1) (by simp; omega); simpa using this) (fun j hj => by have := hb (j + 1) (by omega); simpa using this) (by simpa using hi) (fun hlt => by have := h (by simp; omega); simpa using this)
  simp only [zh]
  rw [if_pos h1, ← ih]; rfl
end
theorem yN {f : List Fx} {c : List Ch} : errE f c = 0 ↔ ¬ (1000 < f.length ∨ 1000 < c.length) ∧ f.all okF = true ∧ c.all okC = true ∧ ordB cmpF Fx.nil f = true ∧ ordB cmpC Ch.nil c = true := by
 unfold errE
 by_cases hb : 1000 < f.length ∨ 1000 < c.length
 ·rw [if_pos hb]; simp [hb]
 ·rw [if_neg hb]
  by_cases h : (f.all okF && c.all okC && ordB cmpF Fx.nil f && ordB cmpC Ch.nil c) = true
  ·rw [if_pos h]
   simp only [Bool.and_eq_true] at h
   exact ⟨fun _ => ⟨hb, h.1.1.1, h.1.1.2, h.1.2, h.2⟩, fun _ => rfl⟩
  ·rw [if_neg h]
   refine ⟨fun h2 => by omega, fun h2 => absurd ?_ h⟩
   simp [h2.2.1, h2.2.2.1, h2.2.2.2.1, h2.2.2.2.2]
def jP (l : List Fx) (a : List UInt8) (d : Int) : List UInt8 × Bool := match l.find? fun x => decide (x.name = a) && decide (x.date = d) with
 | some x => (x.value, true)
 | none => ([], false)
def qe (l : List Ch) (p n : List UInt8) (d : Int) : Bool := match l.find? fun x => decide (x.zb = p) && (decide (x.name = n) && decide (x.date = d)) with
 | some x => x.first
 | none => false
theorem zad {α : Type} {p : α → Bool} {l : List α} {z : α} {i : Nat} (hi : i < l.length) (h : p (l.getD i z) = true) (hb : ∀ j, j < i → p (l.getD j z) = false) : l.find? p = some (l.getD i z) := by
 induction l generalizing i with
 | nil => simp at hi
 | cons a l ih =>
  cases i with
  | zero => simp only [List.getD_cons_zero] at h ⊢; simp [h]
  | succ i =>
   have h0 := hb 0 (by omega)
   simp only [List.getD_cons_zero, List.getD_cons_succ] at h h0 ⊢
   rw [List.find?_cons, h0]
   exact ih (by simpa using hi) h fun j hj => by have := hb (j + 1) (by omega); simpa using this
def putF (f : List Fx) (c : List Ch) (x : Fx) : (List Fx × List Ch) × Int :=
 if errE f c ≠ 0 then (([], []), errE f c) else if (zI x.name && dayB x.date) = false then (([], []), 2) else if errR x.value ≠ 0 then (([], []), errR x.value)
 else if 1000 < (zh cmpF x f).length then (([], []), 22) else ((zh cmpF x f, c), 0)
def putC (f : List Fx) (c : List Ch) (x : Ch) : (List Fx × List Ch) × Int :=
 if errE f c ≠ 0 then (([], []), errE f c) else if okC x = false then (([], []), 2)
 else if 1000 < (zh cmpC x c).length then (([], []), 22) else ((f, zh cmpC x c), 0)
end Go.Nov
end

/- Lists of what is known, as slices: pushed, set, put in between. -/
section
namespace Go.Nov
open Go.Sx
theorem Fx.ve (x : Fx) {j o : Nat} (hj : j < 1) (ho : o < 3) : zg (zf 3 [.str x.name, .int .i64 x.date, .str x.value]) 0 j o = x.cell o := by
 have : j = 0 := by omega
 subst this
 rcases o with _ | _ | _ | o
 ·rfl
 ·rfl
 ·rfl
 ·omega
theorem Ch.ve (x : Ch) {j o : Nat} (hj : j < 1) (ho : o < 4) : zg (zf 4 [.str x.zb, .str x.name, .int .i64 x.date, .bool x.first]) 0 j o = x.cell o := by
 have : j = 0 := by omega
 subst this
 rcases o with _ | _ | _ | _ | o
 ·rfl
 ·rfl
 ·rfl
 ·rfl
 ·omega
theorem kN {α : Type} (l : List α) (x z : α) (j : Nat) : (l ++ [x]).getD j z = if j < l.length then l.getD j z else if j = l.length then x else z := by
 simp only [List.getD, List.getElem?_append]
 split
 ·rfl
 ·rename_i h
  split
  ·rename_i h2; subst h2; simp
  ·rename_i h2
   have : j - l.length ≠ 0 := by omega
   obtain ⟨k, hk⟩ := Nat.exists_eq_succ_of_ne_zero this
   rw [hk]; simp
theorem zag {l : List Fx} {x : Fx} {g : Nat → Nat → AV} (hg : eqG l.length 3 g (fxG l)) : eqG (l.length + 1) 3 (appG l.length g (zg (zf 3 [.str x.name, .int .i64 x.date, .str x.value]) 0)) (fxG (l ++ [x])) := by
 intro j o hj ho
 simp only [appG, fxG, kN]
 split
 ·rename_i h; exact hg j o h ho
 ·rename_i h
  have : j = l.length := by omega
  subst this
  rw [if_pos rfl, Fx.ve x (by omega) ho]
theorem za8 {l : List Ch} {x : Ch} {g : Nat → Nat → AV} (hg : eqG l.length 4 g (chG l)) : eqG (l.length + 1) 4 (appG l.length g (zg (zf 4 [.str x.zb, .str x.name, .int .i64 x.date, .bool x.first]) 0)) (chG (l ++ [x])) := by
 intro j o hj ho
 simp only [appG, chG, kN]
 split
 ·rename_i h; exact hg j o h ho
 ·rename_i h
  have : j = l.length := by omega
  subst this
  rw [if_pos rfl, Ch.ve x (by omega) ho]
theorem zcl {l : List Fx} {x : Fx} {k : Nat} (hk : k < l.length) : eqG l.length 3 (updG (fxG l) k 0 [.str x.name, .int .i64 x.date, .str x.value]) (fxG (l.set k x)) := by
 intro j o hj ho
 simp only [updG, fxG]
 by_cases h : j = k
 ·subst h
  rw [if_pos ⟨rfl, Nat.zero_le _, by simpa using ho⟩]
  have : (l.set j x).getD j Fx.nil = x := by simp [List.getD, hk]
  rw [this]
  rcases o with _ | _ | _ | o
  ·rfl
  ·rfl
  ·rfl
  ·omega
 ·rw [if_neg (fun h2 => h h2.1)]
  have : (l.set k x).getD j Fx.nil = l.getD j Fx.nil := by simp [List.getD, List.getElem?_set, Ne.symm h]
  rw [this]
theorem zcf {l : List Ch} {x : Ch} {k : Nat} (hk : k < l.length) : eqG l.length 4 (updG (chG l) k 0 [.str x.zb, .str x.name, .int .i64 x.date, .bool x.first]) (chG (l.set k x)) := by
 intro j o hj ho
 simp only [updG, chG]
 by_cases h : j = k
 ·subst h
  rw [if_pos ⟨rfl, Nat.zero_le _, by simpa using ho⟩]
  have : (l.set j x).getD j Ch.nil = x := by simp [List.getD, hk]
  rw [this]
  rcases o with _ | _ | _ | _ | o
  ·rfl
  ·rfl
  ·rfl
  ·rfl
  ·omega
 ·rw [if_neg (fun h2 => h h2.1)]
  have : (l.set k x).getD j Ch.nil = l.getD j Ch.nil := by simp [List.getD, List.getElem?_set, Ne.symm h]
  rw [this]
theorem xz (n sz : Nat) (g g' : Nat → Nat → AV) : eqG (0 + n) sz (appG 0 g g') g' := by
 intro j o _ _
 simp [appG]
theorem vq (n sz : Nat) (g : Nat → Nat → AV) : eqG n sz (zg g 0) g := by
 intro j o _ _
 simp [zg]
theorem QD (l : List Fx) (j o : Nat) (ho : o < 3) : zU (fxG l j o) = true := by
 simp only [fxG]
 rcases o with _ | _ | _ | o
 ·rfl
 ·rfl
 ·rfl
 ·omega
theorem QP (l : List Ch) (j o : Nat) (ho : o < 4) : zU (chG l j o) = true := by
 simp only [chG]
 rcases o with _ | _ | _ | _ | o
 ·rfl
 ·rfl
 ·rfl
 ·rfl
 ·omega
theorem kD {α : Type} {p : α → Bool} (z : α) (l : List α) : idxB p l < l.length ∧ l.find? p = if 0 ≤ idxB p l then some (l.getD (idxB p l).toNat z) else none := by
 unfold idxB
 by_cases h : l.findIdx p < l.length
 ·rw [if_pos h]
  refine ⟨by omega, ?_⟩
  rw [if_pos (by omega), Int.toNat_natCast]
  refine zad h ?_ fun j hj => ?_
  ·have := List.findIdx_getElem (w := h)
   simpa [List.getD, h] using this
  ·have := List.not_of_lt_findIdx hj
   have hjl : j < l.length := by omega
   simpa [List.getD, hjl] using this
 ·rw [if_neg h]
  refine ⟨by omega, ?_⟩
  rw [if_neg (by omega), List.find?_eq_none]
  intro x hx hpx
  exact h (List.findIdx_lt_length_of_exists ⟨x, hx, hpx⟩)
theorem XR (f : List Fx) (a : List UInt8) (d : Int) : idxB (fun x => decide (cmpF x ⟨a, d, []⟩ = 0)) f < f.length ∧ jP f a d = if 0 ≤ idxB (fun x => decide (cmpF x ⟨a, d, []⟩ = 0)) f then ((f.getD (idxB (fun x => decide (cmpF x ⟨a, d, []⟩ = 0)) f).toNat Fx.nil).value, true) else ([], false) := by
 obtain ⟨h1, h2⟩ := kD (p := fun x => decide (cmpF x ⟨a, d, []⟩ = 0)) Fx.nil f
 refine ⟨h1, ?_⟩
 have e : (fun x : Fx => decide (x.name = a) && decide (x.date = d)) = fun x => decide (cmpF x ⟨a, d, []⟩ = 0) := by
  funext x
  rw [← Bool.decide_and]; exact decide_eq_decide.2 (@qX x ⟨a, d, []⟩).symm
 unfold jP
 rw [e, h2]
 by_cases h : 0 ≤ idxB (fun x => decide (cmpF x ⟨a, d, []⟩ = 0)) f
 ·rw [if_pos h, if_pos h]
 ·rw [if_neg h, if_neg h]
theorem Vs (c : List Ch) (a v : List UInt8) (d : Int) : idxB (fun x => decide (cmpC x ⟨a, v, d, false⟩ = 0)) c < c.length ∧ qe c a v d = if 0 ≤ idxB (fun x => decide (cmpC x ⟨a, v, d, false⟩ = 0)) c then (c.getD (idxB (fun x => decide (cmpC x ⟨a, v, d, false⟩ = 0)) c).toNat Ch.nil).first else false := by
 obtain ⟨h1, h2⟩ := kD (p := fun x => decide (cmpC x ⟨a, v, d, false⟩ = 0)) Ch.nil c
 refine ⟨h1, ?_⟩
 have e : (fun x : Ch => decide (x.zb = a) && (decide (x.name = v) && decide (x.date = d))) = fun x => decide (cmpC x ⟨a, v, d, false⟩ = 0) := by
  funext x
  rw [← Bool.decide_and, ← Bool.decide_and]; exact decide_eq_decide.2 (@qZ x ⟨a, v, d, false⟩).symm
 unfold qe
 rw [e, h2]
 by_cases h : 0 ≤ idxB (fun x => decide (cmpC x ⟨a, v, d, false⟩ = 0)) c
 ·rw [if_pos h, if_pos h]
 ·rw [if_neg h, if_neg h]
end Go.Nov
end

/- Events of a log, plain. -/
section
namespace Go.Nov
open Go.Sx
structure Ev where
 kind : Int
 id : Int
 entry : Int
 target : Int
 date : Int
 zb : List UInt8
 name : List UInt8
 value : List UInt8
 first : Bool
deriving DecidableEq
abbrev Ev.nil : Ev := ⟨0, 0, 0, 0, 0, [], [], [], false⟩
def Ev.cell (e : Ev) : Nat → AV
 | 0 => .int .u8 e.kind
 | 1 => .int .i64 e.id
 | 2 => .int .i64 e.entry
 | 3 => .int .i64 e.target
 | 4 => .int .i64 e.date
 | 5 => .str e.zb
 | 6 => .str e.name
 | 7 => .str e.value
 | 8 => .bool e.first
 | _ => .undef
def evG (l : List Ev) : Nat → Nat → AV := fun j => (l.getD j Ev.nil).cell
def Ev.av (e : Ev) : AV := .agg [.int .u8 e.kind, .int .i64 e.id, .int .i64 e.entry, .int .i64 e.target, .int .i64 e.date, .str e.zb, .str e.name, .str e.value, .bool e.first]
def evS (l : List Ev) : AV := .sl l.length 9 (evG l)
theorem VU (l : List Ev) (j o : Nat) (ho : o < 9) : zU (evG l j o) = true := by
 unfold evG
 rcases (show o = 0 ∨ o = 1 ∨ o = 2 ∨ o = 3 ∨ o = 4 ∨ o = 5 ∨ o = 6 ∨ o = 7 ∨ o = 8 by omega) with rfl | rfl | rfl | rfl | rfl | rfl | rfl | rfl | rfl <;> rfl
theorem wS {l : List Ev} {x : Ev} {g : Nat → Nat → AV} (hg : eqG l.length 9 g (evG l)) : eqG (l.length + 1) 9 (appG l.length g (zg (zf 9 [.int .u8 x.kind, .int .i64 x.id, .int .i64 x.entry, .int .i64 x.target, .int .i64 x.date, .str x.zb, .str x.name, .str x.value, .bool x.first]) 0)) (evG (l ++ [x])) := by
 intro j p hj hp
 simp only [appG, zg, zf]
 by_cases q : j < l.length
 ·rw [if_pos q, hg j p q hp]
  simp only [evG, List.getD, List.getElem?_append_left q]
 ·rw [if_neg q]
  obtain rfl : j = l.length := by omega
  have e : (l ++ [x]).getD l.length Ev.nil = x := by simp [List.getD]
  unfold evG
  rw [e]
  rcases (show p = 0 ∨ p = 1 ∨ p = 2 ∨ p = 3 ∨ p = 4 ∨ p = 5 ∨ p = 6 ∨ p = 7 ∨ p = 8 by omega) with rfl | rfl | rfl | rfl | rfl | rfl | rfl | rfl | rfl <;> simp [Ev.cell]
def inB (n a b : Int) : Bool := decide (a ≤ n) && decide (n ≤ b)
def zB (e : Ev) : Prop := e.zb.length < 2 ^ 40 ∧ e.name.length < 2 ^ 40 ∧ e.value.length < 2 ^ 40
def Ev.valid (e : Ev) : Bool :=
 inB e.id 1 1073741824 && inB e.entry 0 1125899906842624 &&
 (if e.kind = 1 then zI e.name && dayB e.date && decide (errR e.value = 0) && decide (e.target = 0) && decide (e.zb = []) && !e.first
  else if e.kind = 2 then zI e.zb && zI e.name && dayB e.date && decide (e.target = 0) && decide (e.value = [])
  else inB e.target 1 (e.id - 1) && decide (e.date = 0) && decide (e.zb = []) && decide (e.name = []) &&
   (if e.kind = 3 then decide (errR e.value = 0) && !e.first
   else if e.kind = 4 then decide (e.value = [])
   else decide (e.kind = 5) && decide (e.value = []) && !e.first))
def Ev.key (e : Ev) : List Sc := [.inl e.kind, .inr e.zb, .inr e.name, .inl e.date]
def Ev.ji (k : List Sc) (x : Ev) : Bool := decide (x.kind ≠ 0) && decide (x.key = k)
def zq (l : List Ev) : List Sc → Bool := fun k => l.any (Ev.ji k)
def zy (l : List Ev) : List Sc → AV := fun k => .int .i64 ((l.findIdx (Ev.ji k) : Nat) + 1 : Int)
structure SS where
 evs : List Ev
 lat : List Ev
def SS.fact (s : SS) (e : Ev) : Ev := s.lat.getD (e.target.toNat - 1) Ev.nil
def SS.errC (s : SS) (e : Ev) : Int :=
 if (s.lat.length : Int) < e.target ∨ (s.fact e).kind = 0 then 6
 else if e.kind = 5 then 0
 else if decide (e.kind = 3) ≠ decide ((s.fact e).kind = 1) then 32 else 0
def SS.fixed (s : SS) (e : Ev) : Ev := if e.kind = 5 then Ev.nil else { s.fact e with value := e.value, first := e.first }
def SS.cor (s : SS) (e : Ev) : SS := if s.errC e = 0 then ⟨s.evs, s.lat.set (e.target.toNat - 1) (s.fixed e)⟩ else s
def SS.errA (s : SS) (e : Ev) : Int :=
 if e.valid = false ∨ e.id ≠ s.evs.length + 1 then 2
 else if 0 < s.evs.length ∧ e.entry < (s.evs.getD (s.evs.length - 1) Ev.nil).entry then 21
 else if 1000 ≤ s.evs.length then 22
 else if 0 < e.target then s.errC e
 else if zq s.lat e.key then 24 else 0
def SS.add (s : SS) (e : Ev) : SS :=
 if s.errA e ≠ 0 then s
 else if 0 < e.target then ⟨s.evs ++ [e], (s.cor e).lat ++ [Ev.nil]⟩
 else ⟨s.evs ++ [e], s.lat ++ [e]⟩
structure SS.ok (s : SS) : Prop where
 len : s.lat.length = s.evs.length
 uniq : ∀ i j, i < s.lat.length → j < s.lat.length → (s.lat.getD i Ev.nil).kind ≠ 0 → (s.lat.getD j Ev.nil).kind ≠ 0 → (s.lat.getD i Ev.nil).key = (s.lat.getD j Ev.nil).key → i = j
 kinds : ∀ i, i < s.lat.length → (s.lat.getD i Ev.nil).kind = 0 ∨ (s.lat.getD i Ev.nil).kind = 1 ∨ (s.lat.getD i Ev.nil).kind = 2
end Go.Nov
end

/- Events: Check, and the reference's Valid. -/
section
set_option maxRecDepth 100000
open Go Go.Sx Go.Proofs Go.Nov
namespace Go.Proofs.Try
attribute [local simp] eqKV eqA eqA0 eqH eqB eqL eqL0
noncomputable def WM : Ctr := inlC Try.prog noG 100 Try.f73
theorem Wn : zd Try.prog 73 WM := QJ hmix z7 rfl rfl
noncomputable def GEv0 : Nat → Option Ctr := fun f => if f = 73 then some (WM) else none
theorem U4 : ∀ g c, GEv0 g = some c → zd Try.prog g c := okIf Wn (zu)
noncomputable def zax : Ctr := inlC Try.prog GEv0 100 Try.f74
theorem U2 : zd Try.prog 74 zax := QJ hmix U4 rfl rfl
def ur : Ctr := ctrP true (fun e : Ev => [e.av]) zB (fun e r => r = if e.valid then 0 else 8) (fun _ (r : Int) => (.int .i64 r, []))
noncomputable def GEv : Nat → Option Ctr := fun f => if f = 73 then some (WM) else if f = 74 then some (zax) else if f = 40 then some (uv) else if f = 38 then some (W9) else none
theorem zc7 : ∀ g c, GEv g = some c → zd Try.prog g c := okIf Wn (okIf U2 (okIf y9 (okIf Jg (zu))))
theorem Xt : zd Try.prog 50 ur := by
 refine zm (fn := Try.f50) (c := Try.f50.body.getD .skip) rfl rfl rfl fun p hp O w0 Q hq => ?_
 obtain ⟨k, i, n, t, d, pa, na, va, b⟩ := p
 obtain ⟨h1, h2, h3⟩ := hp
 replace hq := hq _ rfl
 simp only at hq h1 h2 h3
 refine zc.run hmix zc7 [] 400 (T := .ite (bif !bif decide ((1 : Int) ≤ i) then decide (i ≤ 1073741824) else false then true else !bif decide ((0 : Int) ≤ n) then decide (n ≤ 1125899906842624) else false) (.leaf (.ret [.int .i64 8] [.box [.int .u8 k, .int .i64 i, .int .i64 n, .int .i64 t, .int .i64 d, .str pa, .str na, .str va, .bool b]])) (.side (inR .i64 (i - (1 : Int))) (.ex (fun (x : List UInt8) => eqL [AV.str va] [AV.str x] ∧ x.length < 4611686018427387904) fun n_1 => .all (fun (r : Int) => r = errR n_1) fun n_2 => .ite (decide (k = 1)) (.ex (fun (x : List UInt8) => eqL [AV.str na] [AV.str x] ∧ x.length < 4611686018427387904) fun n_3 => .all (fun (r : Bool) => r = zI n_3) fun n_4 => .ite (bif !bif bif n_4 then bif decide ((0 : Int) ≤ d) then decide (d ≤ 99999) else false else false then decide (n_2 = 0) else false then true else !(decide (k = k) && (decide (i = i) && (decide (n = n) && (decide (t = 0) && (decide (d = d) && (decide (pa = Array.toList #[]) && (decide (na = na) && (decide (va = va) && (b == false && true)))))))))) (.leaf (.ret [.int .i64 8] [.box [.int .u8 k, .int .i64 i, .int .i64 n, .int .i64 t, .int .i64 d, .str pa, .str na, .str va, .bool b], .box [.int .u8 k, .int .i64 i, .int .i64 n, .int .i64 0, .int .i64 d, .str (Array.toList #[]), .str na, .str va, .bool false]])) (.leaf (.ret [.int .i64 0] [.box [.int .u8 k, .int .i64 i, .int .i64 n, .int .i64 t, .int .i64 d, .str pa, .str na, .str va, .bool b], .box [.int .u8 k, .int .i64 i, .int .i64 n, .int .i64 0, .int .i64 d, .str (Array.toList #[]), .str na, .str va, .bool false]]))) (.ite (decide (k = 2)) (.ex (fun (x : List UInt8) => eqL [AV.str pa] [AV.str x] ∧ x.length < 4611686018427387904) fun n_3 => .all (fun (r : Bool) => r = zI n_3) fun n_4 => .ex (fun (x : List UInt8) => n_4 = true → eqL [AV.str na] [AV.str x] ∧ x.length < 4611686018427387904) fun n_5 => .all (fun (x : Bool) => n_4 = true → x = zI n_5) fun n_6 => .ite (bif !bif bif n_4 then n_6 else false then bif decide ((0 : Int) ≤ d) then decide (d ≤ 99999) else false else false then true else !(decide (k = k) && (decide (i = i) && (decide (n = n) && (decide (t = 0) && (decide (d = d) && (decide (pa = pa) && (decide (na = na) && (decide (va = Array.toList #[]) && (b == b && true)))))))))) (.leaf (.ret [.int .i64 8] [.box [.int .u8 k, .int .i64 i, .int .i64 n, .int .i64 t, .int .i64 d, .str pa, .str na, .str va, .bool b], .box [.int .u8 k, .int .i64 i, .int .i64 n, .int .i64 0, .int .i64 d, .str pa, .str na, .str (Array.toList #[]), .bool b]])) (.leaf (.ret [.int .i64 0] [.box [.int .u8 k, .int .i64 i, .int .i64 n, .int .i64 t, .int .i64 d, .str pa, .str na, .str va, .bool b], .box [.int .u8 k, .int .i64 i, .int .i64 n, .int .i64 0, .int .i64 d, .str pa, .str na, .str (Array.toList #[]), .bool b]]))) (.ite (decide (k = 3)) (.ite (bif !bif bif decide ((1 : Int) ≤ t) then decide (t ≤ i - (1 : Int)) else false then decide (n_2 = 0) else false then true else !(decide (k = k) && (decide (i = i) && (decide (n = n) && (decide (t = t) && (decide (d = 0) && (decide (pa = Array.toList #[]) && (decide (na = Array.toList #[]) && (decide (va = va) && (b == false && true)))))))))) (.leaf (.ret [.int .i64 8] [.box [.int .u8 k, .int .i64 i, .int .i64 n, .int .i64 t, .int .i64 d, .str pa, .str na, .str va, .bool b], .box [.int .u8 k, .int .i64 i, .int .i64 n, .int .i64 t, .int .i64 0, .str (Array.toList #[]), .str (Array.toList #[]), .str va, .bool false]])) (.leaf (.ret [.int .i64 0] [.box [.int .u8 k, .int .i64 i, .int .i64 n, .int .i64 t, .int .i64 d, .str pa, .str na, .str va, .bool b], .box [.int .u8 k, .int .i64 i, .int .i64 n, .int .i64 t, .int .i64 0, .str (Array.toList #[]), .str (Array.toList #[]), .str va, .bool false]]))) (.ite (decide (k = 4)) (.ite (bif !bif decide ((1 : Int) ≤ t) then decide (t ≤ i - (1 : Int)) else false then true else !(decide (k = k) && (decide (i = i) && (decide (n = n) && (decide (t = t) && (decide (d = 0) && (decide (pa = Array.toList #[]) && (decide (na = Array.toList #[]) && (decide (va = Array.toList #[]) && (b == b && true)))))))))) (.leaf (.ret [.int .i64 8] [.box [.int .u8 k, .int .i64 i, .int .i64 n, .int .i64 t, .int .i64 d, .str pa, .str na, .str va, .bool b], .box [.int .u8 k, .int .i64 i, .int .i64 n, .int .i64 t, .int .i64 0, .str (Array.toList #[]), .str (Array.toList #[]), .str (Array.toList #[]), .bool b]])) (.leaf (.ret [.int .i64 0] [.box [.int .u8 k, .int .i64 i, .int .i64 n, .int .i64 t, .int .i64 d, .str pa, .str na, .str va, .bool b], .box [.int .u8 k, .int .i64 i, .int .i64 n, .int .i64 t, .int .i64 0, .str (Array.toList #[]), .str (Array.toList #[]), .str (Array.toList #[]), .bool b]]))) (.ite (decide (k = 5)) (.ite (bif !bif decide ((1 : Int) ≤ t) then decide (t ≤ i - (1 : Int)) else false then true else !(decide (k = k) && (decide (i = i) && (decide (n = n) && (decide (t = t) && (decide (d = 0) && (decide (pa = Array.toList #[]) && (decide (na = Array.toList #[]) && (decide (va = Array.toList #[]) && (b == false && true)))))))))) (.leaf (.ret [.int .i64 8] [.box [.int .u8 k, .int .i64 i, .int .i64 n, .int .i64 t, .int .i64 d, .str pa, .str na, .str va, .bool b], .box [.int .u8 k, .int .i64 i, .int .i64 n, .int .i64 t, .int .i64 0, .str (Array.toList #[]), .str (Array.toList #[]), .str (Array.toList #[]), .bool false]])) (.leaf (.ret [.int .i64 0] [.box [.int .u8 k, .int .i64 i, .int .i64 n, .int .i64 t, .int .i64 d, .str pa, .str na, .str va, .bool b], .box [.int .u8 k, .int .i64 i, .int .i64 n, .int .i64 t, .int .i64 0, .str (Array.toList #[]), .str (Array.toList #[]), .str (Array.toList #[]), .bool false]]))) (.ite (bif !false then true else !(decide (k = k) && (decide (i = i) && (decide (n = n) && (decide (t = 0) && (decide (d = 0) && (decide (pa = Array.toList #[]) && (decide (na = Array.toList #[]) && (decide (va = Array.toList #[]) && (b == false && true)))))))))) (.leaf (.ret [.int .i64 8] [.box [.int .u8 k, .int .i64 i, .int .i64 n, .int .i64 t, .int .i64 d, .str pa, .str na, .str va, .bool b], .box [.int .u8 k, .int .i64 i, .int .i64 n, .int .i64 0, .int .i64 0, .str (Array.toList #[]), .str (Array.toList #[]), .str (Array.toList #[]), .bool false]])) (.leaf (.ret [.int .i64 0] [.box [.int .u8 k, .int .i64 i, .int .i64 n, .int .i64 t, .int .i64 d, .str pa, .str na, .str va, .bool b], .box [.int .u8 k, .int .i64 i, .int .i64 n, .int .i64 0, .int .i64 0, .str (Array.toList #[]), .str (Array.toList #[]), .str (Array.toList #[]), .bool false]])))))))))) (by kernel_rfl) ?_
 simp only [Tree.holds, ze]
 have two : ∀ (c : Bool) (h h' : Heap), (c = !(Ev.valid ⟨k, i, n, t, d, pa, na, va, b⟩)) → (c = true → RetR ur 0 Q [.int .i64 8] h) ∧ (c = false → RetR ur 0 Q [.int .i64 0] h') := by
  intro c h h' hc
  rw [hc]
  refine ⟨fun g => RetR.scal hq rfl ?_, fun g => RetR.scal hq rfl ?_⟩
  ·rw [if_neg (by simpa using g)]; rfl
  ·rw [if_pos (by simpa using g)]; rfl
 refine ⟨fun g => (two true _ [] (by
  have g' : (inB i 1 1073741824 && inB n 0 1125899906842624) = false := by
   simp only [inB]
   revert g
   cases decide (1 ≤ i) <;> cases decide (i ≤ 1073741824) <;> cases decide (0 ≤ n) <;> cases decide (n ≤ 1125899906842624) <;> simp
  simp only [Ev.valid, g', Bool.false_and]; rfl)).1 rfl, fun g => ?_⟩
 have g' : (inB i 1 1073741824 && inB n 0 1125899906842624) = true := by
  simp only [inB]
  revert g
  cases decide (1 ≤ i) <;> cases decide (i ≤ 1073741824) <;> cases decide (0 ≤ n) <;> cases decide (n ≤ 1125899906842624) <;> simp
 have hv : Ev.valid ⟨k, i, n, t, d, pa, na, va, b⟩ = (if k = 1 then zI na && dayB d && decide (errR va = 0) && decide (t = 0) && decide (pa = []) && !b
  else if k = 2 then zI pa && zI na && dayB d && decide (t = 0) && decide (va = [])
  else inB t 1 (i - 1) && decide (d = 0) && decide (pa = []) && decide (na = []) &&
   (if k = 3 then decide (errR va = 0) && !b
   else if k = 4 then decide (va = [])
   else if k = 5 then decide (va = []) && !b else false)) := by
  simp only [Ev.valid, g', Bool.true_and]
  by_cases k5 : k = 5 <;> simp [k5]
 have hi1 : inR .i64 (i - 1) := by
  simp only [inB, Bool.and_eq_true, decide_eq_true_eq] at g'
  simp only [inR, lo, hi]
  omega
 rw [hv] at two
 clear hv g hq
 refine ⟨hi1, fun _ => ⟨va, ⟨by simp, by omega⟩, ⟨_, rfl⟩, ?_⟩⟩
 rintro _ rfl
 simp only [dayB, inB] at two
 have B : ∀ b : Bool, (b == false) = !b := by decide
 simp only [B, beq_self_eq_true, decide_true, Bool.true_and, Bool.and_true]
 have bi : ∀ x y : Bool, (bif x then y else false) = (x && y) := by decide
 have bo : ∀ x y : Bool, (bif x then true else y) = (x || y) := by decide
 simp only [bi, bo]
 generalize decide (errR va = 0) = e1 at two ⊢
 generalize decide (t = 0) = e2 at two ⊢
 generalize decide (pa = []) = e3 at two ⊢
 generalize decide (va = []) = e4 at two ⊢
 generalize decide (0 ≤ d) = e5 at two ⊢
 generalize decide (d ≤ 99999) = e6 at two ⊢
 generalize decide (na = []) = e7 at two ⊢
 generalize decide (d = 0) = e8 at two ⊢
 generalize decide (1 ≤ t) = e9 at two ⊢
 generalize decide (t ≤ i - 1) = e10 at two ⊢
 refine ⟨fun k1 => ?_, fun k1 => ⟨fun k2 => ?_, fun k2 => ⟨fun k3 => ?_, fun k3 => ⟨fun k4 => ?_, fun k4 => ⟨fun k5 => ?_, fun k5 => ?_⟩⟩⟩⟩⟩ <;> simp only [decide_eq_true_eq, decide_eq_false_iff_not] at *
 ·rw [if_pos k1] at two
  refine ⟨na, ⟨by simp, by omega⟩, ⟨_, rfl⟩, ?_⟩
  rintro _ rfl
  refine two _ _ _ ?_
  generalize zI na = e11
  clear two hi1
  cases e1 <;> cases e2 <;> cases e3 <;> cases e5 <;> cases e6 <;> cases e11 <;> cases b <;> rfl
 ·rw [if_neg k1, if_pos k2] at two
  refine ⟨pa, ⟨by simp, by omega⟩, ⟨_, rfl⟩, ?_⟩
  rintro _ rfl
  refine ⟨na, fun _ => ⟨by simp, by omega⟩, ⟨_, fun _ => rfl⟩, ?_⟩
  intro b6 h6
  refine two _ _ _ ?_
  generalize zI na = e11 at h6 ⊢
  generalize zI pa = e12 at h6 ⊢
  clear two hi1
  cases e12
  ·rfl
  ·rw [h6 rfl]
   cases e2 <;> cases e4 <;> cases e5 <;> cases e6 <;> cases e11 <;> rfl
 ·rw [if_neg k1, if_neg k2, if_pos k3] at two
  refine two _ _ _ ?_
  clear two hi1
  cases e1 <;> cases e3 <;> cases e7 <;> cases e8 <;> cases e9 <;> cases e10 <;> cases b <;> rfl
 ·rw [if_neg k1, if_neg k2, if_neg k3, if_pos k4] at two
  refine two _ _ _ ?_
  clear two hi1
  cases e4 <;> cases e3 <;> cases e7 <;> cases e8 <;> cases e9 <;> cases e10 <;> rfl
 ·rw [if_neg k1, if_neg k2, if_neg k3, if_neg k4, if_pos k5] at two
  refine two _ _ _ ?_
  clear two hi1
  cases e4 <;> cases e3 <;> cases e7 <;> cases e8 <;> cases e9 <;> cases e10 <;> cases b <;> rfl
 ·rw [if_neg k1, if_neg k2, if_neg k3, if_neg k4, if_neg k5] at two
  refine two _ _ _ ?_
  clear two hi1
  cases e4 <;> cases e3 <;> cases e7 <;> cases e8 <;> cases e9 <;> cases e10 <;> cases b <;> rfl
end Go.Proofs.Try
end
