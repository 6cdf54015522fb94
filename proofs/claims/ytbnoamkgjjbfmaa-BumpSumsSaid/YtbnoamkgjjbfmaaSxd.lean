/- Part 4 of the proof. -/
import Derived.Test.YtbnoamkgjjbfmaaSxa
import Derived.Test.YtbnoamkgjjbfmaaSxc
import Derived.Test.YtbnoamkgjjbfmaaProg
import Derived.Lib.Strings
import Derived.Lib.Slices
import Derived.Lib.Walk
import Derived.Lib.Bytealg
set_option linter.unusedVariables false
set_option linter.unusedSimpArgs false
set_option linter.unusedSectionVars false

/- The integers' magnitudes: what the small functions compute. -/
section
set_option maxRecDepth 100000
open Go Go.Sx Go.Proofs Go.Nov
namespace Go.Proofs.Try
attribute [local simp] eqKV eqA eqA0 eqH eqB eqL eqL0
noncomputable def K82 : List Go.Sx.Item := [.code (Try.f82.body.getD .skip)]
theorem hmix : Try.prog.follows .mixedOrders = true := by decide +kernel
def noG : Nat → Option Ctr := fun _ => none
theorem zG : ∀ g c, noG g = some c → ze Try.prog g c := fun _ _ h => by cases h
def Uz : AV → Nat
 | .int _ n => n.toNat
 | _ => 0
def decN (n : Nat) (g : Nat → Nat → AV) : List Nat := (List.range n).map fun j => Uz (g j 0)
theorem kq (k : IntKind) (l : List Nat) : decN l.length (natG k l) = l := by
 apply List.ext_getElem (by simp [decN])
 intro j h1 h2
 simp [decN, natG, Uz, h2]
theorem za (n sz : Nat) (g : Nat → Nat → AV) : eqG n sz g g := fun _ _ _ _ => rfl
theorem xq {k : IntKind} {l : List Nat} {v : Int} (hv : 0 ≤ v) : eqG (l.length + 1) 1 (appG l.length (natG k l) (zh (zc 1 [.int k v]) 0)) (natG k (l ++ [v.toNat])) := by
 intro j o hj ho
 have ho : o = 0 := by omega
 subst ho
 simp only [appG, zh, zc, natG]
 by_cases h : j < l.length
 ·simp [h, List.getElem?_append]
 ·have : j = l.length := by omega
  subst this
  simp [Int.toNat_of_nonneg hv]
theorem wi {k : IntKind} {o : List Nat} {v : Int} {d : Nat} {r : Heap} (hv : v = d) : eqH (.arr (o.length + 1) 1 (appG o.length (natG k o) (zh (zc 1 [.int k v]) 0)) :: r) [.arr (o ++ [d]).length 1 (natG k (o ++ [d]))] := by
 subst hv
 refine ⟨⟨by simp, rfl, ?_⟩, by simp [eqH]⟩
 have := xq (k := k) (l := o) (v := (d : Int)) (by omega)
 simpa using this
theorem wJ {k : IntKind} {l : List Nat} {v : Int} {i : Nat} (hv : 0 ≤ v) (hi : i < l.length) : eqG l.length 1 (updG (natG k l) i 0 [.int k v]) (natG k (l.set i v.toNat)) := by
 intro j o hj ho
 have ho : o = 0 := by omega
 subst ho
 simp only [updG, natG, List.length_cons, List.length_nil]
 by_cases h : j = i
 ·subst h
  simp [hj, Int.toNat_of_nonneg hv]
 ·simp only [h, false_and, if_false]
  simp [List.getElem?_set_ne (fun e => h e.symm)]
def magS (x : Nat) : AV := natS .u32 (canon x)
def fits (x : Nat) : Prop := (canon x).length < 1000000
theorem QO {m off n : Nat} {k : IntKind} {o : List Nat} {r : Heap} : new0 (.arr m 1 (natG k o) :: r) [] (.osl 0 1 off n) := by
 intro _
 simp only [exp0, z0, frz1, jr, List.getElem?_cons_zero, if_true]
 intro j o' _ _
 rfl
theorem QM {m off n : Nat} {g : Nat → Nat → AV} {r : Heap} : exp0 (.arr m 1 g :: r) [] (.osl 0 1 off n) = .sl n 1 (zh g off) := by
 simp [exp0, z0, frz1, jr]
theorem Z1 {k : IntKind} {o l : List Nat} (h : qg o = l) : eqA0 (.sl (tlen o) 1 (zh (natG k o) 0)) (natS k l) := by
 subst h
 simp only [eqA0, natS, qg, List.length_take, true_and]
 refine ⟨by have := zO o; omega, ?_⟩
 intro j o' hj ho'
 have : o' = 0 := by omega
 subst this
 simp [zh, natG, List.getElem?_take, hj]
def ctr2 {R : Type} (fresh : Bool) (pre : Nat → Nat → Prop) (post : Nat → Nat → R → Prop) (out : Nat → Nat → R → AV × Heap) : Ctr :=
 ctrP fresh (fun p : Nat × Nat => [magS p.1, magS p.2]) (fun p => pre p.1 p.2) (fun p => post p.1 p.2) (fun p => out p.1 p.2)
theorem xA {R : Type} {fresh : Bool} {pre : Nat → Nat → Prop} {post : Nat → Nat → R → Prop} {out : Nat → Nat → R → AV × Heap} {g : Nat} {fn : Func} {c : Code} (hf : Try.prog.funcs[g]? = some fn) (hb : fn.body = some c) (hn : (fn.name == "runtime.NumGoroutine") = false)
  (H : ∀ x y, pre x y → ∀ (O : Nat → Prop) (w0 : World) (Q : AV × Heap → Prop), (∀ r, post x y r → Q (out x y r)) → zb Try.prog fn O 0 w0 [] (fun _ _ _ => False) (RetR (ctr2 fresh pre post out) 0 Q) [.code c] (entry fn [magS x, magS y])) : ze Try.prog g (ctr2 fresh pre post out) :=
 zr hf hb hn fun p hp => H p.1 p.2 hp
def yn : Ctr where
 fresh := false
 spec args hc := match args, hc with
  | [.sl n 1 g], [] => .ex (fun l : List Nat => dig l ∧ l.length = n ∧ n < 2 ^ 62 ∧ eqG n 1 g (natG .u32 l)) fun l => .all (fun x => x = val l) fun x => .leaf (magS x, [])
  | [.osl 0 1 off n], [.arr m 1 g] => .ex (fun u : List Nat => u.length = m ∧ off + n ≤ m ∧ n < 2 ^ 62 ∧ eqG m 1 g (natG .u32 u) ∧ dig ((u.drop off).take n)) fun u => .all (fun x => x = val ((u.drop off).take n)) fun x => .leaf (.osl 0 1 off (canon x).length, [.arr m 1 g])
  | _, _ => .fail
def S75o (off n : Nat) : KV := [(0, .osl 0 1 off n)]
def S75 (l : List Nat) (n : Nat) : KV := [(0, .sl n 1 (natG .u32 l))]
theorem Ql : ze Try.prog 82 yn := by
 intro args hc Q hq hfr
 unfold yn at hq
 dsimp only at hq
 split at hq
 ·rename_i n g
  obtain ⟨l, ⟨hdl, hln, hn, hg⟩, _, hq⟩ := hq
  obtain ⟨x, hv⟩ : ∃ x, val l = x := ⟨_, rfl⟩
  replace hq := hq x hv.symm
  have hcan : qg l = canon x := by rw [zD hdl, hv]
  simp only [magS, ← hcan] at hq
  refine ji.le (args' := [natS .u32 l]) (by simp [natS, hln, hg]) (fn_k (fn := Try.f82) (c := Try.f82.body.getD .skip) rfl rfl rfl hfr fun O w0 σ0 h0 => ?_)
  refine zb.run hmix zG [0] 400 (T := .leaf (.loop (Prod.fst (lps K82 0)) (Prod.snd (lps K82 0)) [(0, .sl l.length 1 (natG .u32 l))] [])) (by kernel_rfl) ?_
  refine zb.loop (ι := {n : Nat // tlen l ≤ n ∧ n ≤ l.length}) (fun x => S75 l x.1) (fun _ => []) (fun x => x.1) ⟨l.length, zO l, Nat.le_refl _⟩ 0 ?_ ?_ (by kernel_rfl)
  ·exact ⟨by simp [S75, eqG], by simp, by kernel_rfl, Nat.zero_le _⟩
  ·rintro ⟨n, h1, h2⟩
   refine zb.run hmix zG [0] 400 (T := .side (decide ((0 : Int) < n) = true → inR .i64 ((↑n : Int) - (1 : Int))) (.side (decide ((0 : Int) < n) = true → (0 : Int) ≤ n - (1 : Int) ∧ (↑n : Int) - (1 : Int) < n) (.ite (bif decide ((0 : Int) < n) then decide ((↑(List.getD l (Int.toNat ((↑n : Int) - (1 : Int))) 0) : Int) = 0) else false) (.side (inR .i64 ((↑n : Int) - (1 : Int))) (.side ((0 : Int) ≤ n - (1 : Int) ∧ (↑n : Int) - (1 : Int) ≤ n) (.leaf (.back 0 [(0, .sl (Int.toNat ((↑n : Int) - (1 : Int)) - 0) 1 (zh (natG .u32 l) 0))] [])))) (.leaf (.ret [.sl n 1 (natG .u32 l)] []))))) (by kernel_rfl) ?_
   simp only [Tree.holds, zd, inR, lo, hi, Bool.cond_eq_ite]
   refine ⟨by simp; omega, fun _ => ⟨by simp; omega, fun _ => ⟨fun h => ?_, fun h => ?_⟩⟩⟩
   ·have hp : 0 < n := by
     rcases Nat.eq_zero_or_pos n with rfl | hp
     ·simp at h
     ·exact hp
    have e : ((n : Int) - 1).toNat = n - 1 := by omega
    have hz : l.getD (n - 1) 0 = 0 := by
     rw [if_pos (by simpa using hp), e] at h
     simpa only [decide_eq_true_eq, Int.natCast_eq_zero] using h
    refine ⟨by omega, fun _ => ⟨by omega, fun _ => ?_⟩⟩
    rw [if_pos trivial]
    refine ⟨⟨n - 1, ?_, by omega⟩, by show n - 1 < n; omega, by simp [S75, eqG, zh, e], by simp, by kernel_rfl, Nat.zero_le _⟩
    rcases Nat.lt_or_ge (n - 1) (tlen l) with h3 | h3
    ·have h4 : tlen l - 1 = n - 1 := by omega
     exact absurd (h4 ▸ hz) (qf l (by omega))
    ·exact h3
   ·have hn : n = tlen l := by
     rcases Nat.lt_or_ge (tlen l) n with h3 | h3
     ·exfalso
      have e : ((n : Int) - 1).toNat = n - 1 := by omega
      rw [if_pos (by simp; omega), e] at h
      have := jk l (n - 1) (by omega)
      simp only [decide_eq_false_iff_not, Int.natCast_eq_zero] at h
      exact h this
     ·omega
    subst hn
    refine ⟨[], rfl, by simp, by simp, by simp [yn], _, [], qb ?_, by simp, rfl, hq⟩
    have := zO l
    simp only [resV, exp2, exp1, exp0, ren0, eqA2, eqA, natS, eqA0, qg, List.length_take, Nat.min_eq_left this, true_and]
    intro j o hj ho
    simp only [natG, List.getD, List.getElem?_take, if_pos hj]
 ·rename_i off n m g
  obtain ⟨l, ⟨hlm, hm, hn, hg, hdl⟩, _, hq⟩ := hq
  obtain ⟨x, hv⟩ : ∃ x, val ((l.drop off).take n) = x := ⟨_, rfl⟩
  replace hq := hq x hv.symm
  subst hlm
  simp only [← hv, ← JD hdl] at hq
  refine ji.leH (hc' := [.arr l.length 1 (natG .u32 l)]) (by simp [hg]) rfl (fn_k (fn := Try.f82) (c := Try.f82.body.getD .skip) rfl rfl rfl (by simp [yn]) fun O w0 σ0 h0 => ?_)
  refine zb.run hmix zG [0] 400 (T := .leaf (.loop (Prod.fst (lps K82 0)) (Prod.snd (lps K82 0)) [(0, .osl 0 1 off n)] [.arr l.length 1 (natG .u32 l)])) (by kernel_rfl) ?_
  have hget : ∀ j, j < n → ((l.drop off).take n).getD j 0 = l.getD (off + j) 0 := by
   intro j hj
   simp [List.getElem?_take, hj, List.getElem?_drop]
  have htl : tlen ((l.drop off).take n) ≤ n := by
   have := zO ((l.drop off).take n)
   simp at this; omega
  refine zb.loop (ι := {k : Nat // tlen ((l.drop off).take n) ≤ k ∧ k ≤ n}) (fun x => S75o off x.1) (fun _ => [.arr l.length 1 (natG .u32 l)]) (fun x => x.1) ⟨n, htl, Nat.le_refl _⟩ 0 ?_ ?_ (by kernel_rfl)
  ·exact ⟨by simp [S75o], by simp [eqG], by kernel_rfl, Nat.le_refl _⟩
  ·rintro ⟨k, h1, h2⟩
   refine zb.run hmix zG [0] 400 (T := .side (decide ((0 : Int) < k) = true → inR .i64 ((↑k : Int) - (1 : Int))) (.side (decide ((0 : Int) < k) = true → (0 : Int) ≤ k - (1 : Int) ∧ (↑k : Int) - (1 : Int) < k) (.ite (bif decide ((0 : Int) < k) then decide ((↑(List.getD l (off + Int.toNat ((↑k : Int) - (1 : Int))) 0) : Int) = 0) else false) (.side (inR .i64 ((↑k : Int) - (1 : Int))) (.side ((0 : Int) ≤ k - (1 : Int) ∧ (↑k : Int) - (1 : Int) ≤ k) (.leaf (.back 0 [(0, .osl 0 1 (off + 0) (Int.toNat ((↑k : Int) - (1 : Int)) - 0))] [.arr l.length 1 (natG .u32 l)])))) (.leaf (.ret [.osl 0 1 off k] [.arr l.length 1 (natG .u32 l)]))))) (by kernel_rfl) ?_
   simp only [Tree.holds, zd, inR, lo, hi, Bool.cond_eq_ite]
   refine ⟨by simp; omega, fun _ => ⟨by simp; omega, fun _ => ⟨fun h => ?_, fun h => ?_⟩⟩⟩
   ·have hp : 0 < k := by
     rcases Nat.eq_zero_or_pos k with rfl | hp
     ·simp at h
     ·exact hp
    have e : ((k : Int) - 1).toNat = k - 1 := by omega
    have hz : ((l.drop off).take n).getD (k - 1) 0 = 0 := by
     rw [if_pos (by simpa using hp), e] at h
     rw [hget _ (by omega)]
     simpa only [decide_eq_true_eq, Int.natCast_eq_zero] using h
    refine ⟨by omega, fun _ => ⟨by omega, fun _ => ?_⟩⟩
    rw [if_pos trivial]
    refine ⟨⟨k - 1, ?_, by omega⟩, by show k - 1 < k; omega, by simp [S75o, e], by simp [eqG], by kernel_rfl, Nat.le_refl _⟩
    rcases Nat.lt_or_ge (k - 1) (tlen ((l.drop off).take n)) with h3 | h3
    ·have h4 : tlen ((l.drop off).take n) - 1 = k - 1 := by omega
     exact absurd (h4 ▸ hz) (qf _ (by omega))
    ·exact h3
   ·have hn : k = tlen ((l.drop off).take n) := by
     rcases Nat.lt_or_ge (tlen ((l.drop off).take n)) k with h3 | h3
     ·exfalso
      have e : ((k : Int) - 1).toNat = k - 1 := by omega
      rw [if_pos (by simp; omega), e] at h
      have := jk ((l.drop off).take n) (k - 1) (by omega)
      rw [hget _ (by omega)] at this
      simp only [decide_eq_false_iff_not, Int.natCast_eq_zero] at h
      exact h this
     ·omega
    subst hn
    exact ⟨[0], rfl, by simp, by simp, by simp [yn], _, [.arr l.length 1 g], qb (by simp [resV, exp2, exp1, exp0, z0, eqA2]), ⟨⟨rfl, rfl, fun j o hj ho => (hg j o hj ho).symm⟩, trivial⟩, rfl, hq⟩
 ·exact hq.elim
end Go.Proofs.Try
end

/- The integers' magnitudes: comparison, subtraction, short division. -/
section
set_option maxRecDepth 100000
open Go Go.Sx Go.Proofs Go.Nov
namespace Go.Proofs.Try
attribute [local simp] eqKV eqA eqA0 eqH eqB eqL eqL0
noncomputable def K85 : List Go.Sx.Item := [.code (Try.f85.body.getD .skip)]
noncomputable def K86 : List Go.Sx.Item := [.code (Try.f86.body.getD .skip)]
def cmp3 (x y : Nat) : Int := if x < y then -1 else if y < x then 1 else 0
def x5 : Ctr := ctr2 true (fun x y => fits x ∧ fits y) (fun x y r => r = cmp3 x y) (fun _ _ r => (.int .i64 r, []))
def S73 (x y k : Nat) : KV := [(0, magS x), (1, magS y), (5, .int .i64 ((k : Int) - 1))]
theorem kV : ze Try.prog 85 x5 := by
 refine xA (fn := Try.f85) (c := Try.f85.body.getD .skip) rfl rfl rfl fun x y hp O w0 Q hq => ?_
 replace hq := hq _ rfl
 obtain ⟨hx, hy⟩ := hp
 simp only [fits] at hx hy
 refine zb.run hmix zG [0, 1, 5] 400 (T := .ite (!decide ((↑(canon x).length : Int) = (↑(canon y).length : Int))) (.side (inR .i64 ((↑(canon x).length : Int) - (↑(canon y).length : Int))) (.leaf (.ret [.int .i64 (max (-1 : Int) (min (1 : Int) ((↑(canon x).length : Int) - (↑(canon y).length : Int))))] []))) (.side (inR .i64 ((↑(canon x).length : Int) - (1 : Int))) (.leaf (.loop (Prod.fst (lps K85 0)) (Prod.snd (lps K85 0)) [(0, .sl (canon x).length 1 (natG .u32 (canon x))), (1, .sl (canon y).length 1 (natG .u32 (canon y))), (5, .int .i64 ((↑(canon x).length : Int) - (1 : Int)))] [])))) (by kernel_rfl) ?_
 simp only [Tree.holds, zd, inR, lo, hi, Bool.cond_eq_ite]
 refine ⟨fun h => ⟨by omega, fun _ => RetR.scal hq rfl ?_⟩, fun h => ⟨by omega, fun _ => ?_⟩⟩
 ·simp only [resV, cmp3]
  congr 1
  have hne : (canon x).length ≠ (canon y).length := by
   simp only [Bool.not_eq_true', decide_eq_false_iff_not] at h
   omega
  rcases Nat.lt_or_gt_of_ne hne with h1 | h1
  ·have := zJ h1
   rw [if_pos this]; omega
  ·have := zJ h1
   rw [if_neg (by omega), if_pos this]; omega
 ·have hlen : (canon x).length = (canon y).length := by
   simp only [Bool.not_eq_false', decide_eq_true_eq] at h
   omega
  refine zb.loop (ι := {k : Nat // k ≤ (canon x).length ∧ ∀ j, k ≤ j → (canon x).getD j 0 = (canon y).getD j 0}) (fun k => S73 x y k.1) (fun _ => []) (fun k => k.1) ⟨(canon x).length, Nat.le_refl _, fun j hj => by simp [hj, hlen ▸ hj]⟩ 0 ?_ ?_ (by kernel_rfl)
  ·exact ⟨by simp [S73, magS, natS, za], by simp, by kernel_rfl, Nat.zero_le _⟩
  ·rintro ⟨k, h1, h2⟩
   refine zb.run hmix zG [0, 1, 5] 400 (T := .ite (decide ((0 : Int) ≤ k - (1 : Int))) (.side ((0 : Int) ≤ k - (1 : Int) ∧ (↑k : Int) - (1 : Int) < (↑(canon x).length : Int)) (.side ((0 : Int) ≤ k - (1 : Int) ∧ (↑k : Int) - (1 : Int) < (↑(canon y).length : Int)) (.ite (!decide ((↑(List.getD (canon x) (Int.toNat ((↑k : Int) - (1 : Int))) 0) : Int) = (↑(List.getD (canon y) (Int.toNat ((↑k : Int) - (1 : Int))) 0) : Int))) (.side ((0 : Int) ≤ k - (1 : Int) ∧ (↑k : Int) - (1 : Int) < (↑(canon x).length : Int)) (.side ((0 : Int) ≤ k - (1 : Int) ∧ (↑k : Int) - (1 : Int) < (↑(canon y).length : Int)) (.ite (decide ((↑(List.getD (canon x) (Int.toNat ((↑k : Int) - (1 : Int))) 0) : Int) < (↑(List.getD (canon y) (Int.toNat ((↑k : Int) - (1 : Int))) 0) : Int))) (.leaf (.ret [.int .i64 (-1 : Int)] [])) (.leaf (.ret [.int .i64 1] []))))) (.side (inR .i64 ((↑k : Int) - (1 : Int) - (1 : Int))) (.leaf (.back 0 [(0, .sl (canon x).length 1 (natG .u32 (canon x))), (1, .sl (canon y).length 1 (natG .u32 (canon y))), (5, .int .i64 ((↑k : Int) - (1 : Int) - (1 : Int)))] [])))))) (.leaf (.ret [.int .i64 0] []))) (by kernel_rfl) ?_
   simp only [Tree.holds, zd, inR, lo, hi, Bool.cond_eq_ite]
   have e : ((k : Int) - 1).toNat = k - 1 := by omega
   rw [e]
   refine ⟨fun hk => ?_, fun hk => RetR.scal hq rfl ?_⟩
   ·have hk : 0 < k := by simp at hk; omega
    refine ⟨by omega, fun _ => ⟨by omega, fun _ => ⟨fun hne => ⟨by omega, fun _ => ⟨by omega, fun _ => ⟨fun hlt => RetR.scal hq rfl ?_, fun hlt => RetR.scal hq rfl ?_⟩⟩⟩, fun heq => ⟨by omega, fun _ => ?_⟩⟩⟩⟩
    ·have := ye (zg x) hlen (i := k - 1) (fun j hj => h2 j (by omega)) (by simpa using hlt)
     rw [zi, zi] at this
     simp [resV, cmp3, this]
    ·have hgt : (canon y).getD (k - 1) 0 < (canon x).getD (k - 1) 0 := by
      simp only [Bool.not_eq_true', decide_eq_false_iff_not] at hne hlt
      omega
     have := ye (zg y) hlen.symm (i := k - 1) (fun j hj => (h2 j (by omega)).symm) hgt
     rw [zi, zi] at this
     simp only [resV, cmp3]
     rw [if_neg (by omega), if_pos this]
    ·rw [if_pos trivial]
     refine ⟨⟨k - 1, by omega, fun j hj => ?_⟩, by show k - 1 < k; omega, by simp [S73, magS, natS, za]; omega, by simp, by kernel_rfl, Nat.zero_le _⟩
     rcases Nat.lt_or_ge j k with hj2 | hj2
     ·have : j = k - 1 := by omega
      subst this
      simp only [Bool.not_eq_false', decide_eq_true_eq] at heq
      omega
     ·exact h2 j hj2
   ·have hk : k = 0 := by simp at hk; omega
    subst hk
    have : canon x = canon y := by
     apply List.ext_getElem hlen
     intro j hj hj'
     have := h2 j (Nat.zero_le _)
     simpa [hj, hj'] using this
    have : x = y := by rw [← zi x, this, zi]
    subst this
    simp [resV, cmp3]
noncomputable def G1 : Nat → Option Ctr := fun f => if f = 82 then some (yn) else none
theorem xj : ∀ g c, G1 g = some c → ze Try.prog g c := okIf Ql (zz)
def Qz : Ctr := ctr2 true (fun x y => fits x ∧ y ≤ x) (fun x y d => d = x - y) (fun _ _ d => (magS d, []))
def S78 (x y : Nat) (o : List Nat) (c i : Nat) : KV := [(0, magS x), (1, magS y), (5, .osl 0 1 0 o.length), (6, .int .u32 (c : Int)), (13, magS x), (14, .int .i64 ((canon x).length : Int)), (15, .int .i64 (i : Int))]
structure I78 (x y : Nat) where
 o : List Nat
 c : Nat
 i : Nat
 len : o.length = i
 le : i ≤ (canon x).length
 dg : dig o
 c1 : c ≤ 1
 eq : val ((canon x).take i) + B ^ i * c = val o + val ((canon y).take i)
theorem Qw {x y : Nat} (h : x ≤ y) : (canon x).length ≤ (canon y).length := by
 rcases Nat.lt_or_ge (canon y).length (canon x).length with h1 | h1
 ·have := zJ h1; omega
 ·exact h1
theorem za0 {x y o c i d c' : Nat} {l m : List Nat} (h : val (l.take i) + B ^ i * c = o + val (m.take i)) (he : l.getD i 0 + B * c' = d + m.getD i 0 + c) : val (l.take (i + 1)) + B ^ (i + 1) * c' = o + B ^ i * d + val (m.take (i + 1)) := by
 rw [zn, zn, Nat.pow_succ]
 have := congrArg (B ^ i * ·) he
 simp only [Nat.mul_add] at this
 rw [Nat.mul_assoc]
 omega
theorem uQ (l : List Nat) (d : Nat) : val (l ++ [d]) = val l + B ^ l.length * d := by rw [z7]; simp [val]
theorem ub : ze Try.prog 86 Qz := by
 refine xA (fn := Try.f86) (c := Try.f86.body.getD .skip) rfl rfl rfl fun x y hp O w0 Q hq => ?_
 replace hq := hq _ rfl
 obtain ⟨hx, hyx⟩ := hp
 simp only [fits] at hx hyx
 have hlen := Qw hyx
 refine zb.run hmix xj [0, 1, 5, 6, 13, 14, 15] 400 (T := .side ((0 : Int) ≤ 0 ∧ (0 : Int) ≤ (↑(canon x).length : Int) ∧ inR .i64 (↑(canon x).length : Int) ∧ Int.toNat (↑(canon x).length : Int) * 4 ≤ 140737488355328) (.leaf (.loop (Prod.fst (lps K86 0)) (Prod.snd (lps K86 0)) [(0, .sl (canon x).length 1 (natG .u32 (canon x))), (1, .sl (canon y).length 1 (natG .u32 (canon y))), (5, .osl 0 1 0 0), (6, .int .u32 0), (13, .sl (canon x).length 1 (natG .u32 (canon x))), (14, .int .i64 (↑(canon x).length : Int)), (15, .int .i64 0)] [.arr 0 1 (jS [.int .u32 0])]))) (by kernel_rfl) ?_
 simp only [Tree.holds, zd, inR, lo, hi]
 refine ⟨by omega, fun _ => ?_⟩
 refine zb.loop (ι := I78 x y) (fun s => S78 x y s.o s.c s.i) (fun s => [.arr s.o.length 1 (natG .u32 s.o)]) (fun s => (canon x).length - s.i) ⟨[], 0, 0, rfl, Nat.zero_le _, by simp [dig], by omega, by simp [val]⟩ 0 ?_ ?_ (by kernel_rfl)
 ·exact ⟨by simp [S78, magS, natS, za], by simp [eqG], by kernel_rfl, Nat.zero_le _⟩
 ·rintro ⟨o, c, i, ho, hle, hd, hc, he⟩
  subst ho
  have hB : B = 1000000000 := rfl
  refine zb.run hmix xj [0, 1, 5, 6, 13, 14, 15] 400 (T := .ite (decide ((↑o.length : Int) < (↑(canon x).length : Int))) (.side ((0 : Int) ≤ o.length ∧ (↑o.length : Int) < (↑(canon x).length : Int)) (.ite (decide ((↑o.length : Int) < (↑(canon y).length : Int))) (.side ((0 : Int) ≤ o.length ∧ (↑o.length : Int) < (↑(canon y).length : Int)) (.side (inR .u32 ((↑c : Int) + (↑(List.getD (canon y) (Int.toNat (↑o.length : Int)) 0) : Int))) (.ite (decide ((↑(List.getD (canon x) (Int.toNat (↑o.length : Int)) 0) : Int) < c + (↑(List.getD (canon y) (Int.toNat (↑o.length : Int)) 0) : Int))) (.side (inR .u32 ((↑(List.getD (canon x) (Int.toNat (↑o.length : Int)) 0) : Int) + (1000000000 : Int))) (.side (inR .u32 ((↑(List.getD (canon x) (Int.toNat (↑o.length : Int)) 0) : Int) + (1000000000 : Int) - ((↑c : Int) + (↑(List.getD (canon y) (Int.toNat (↑o.length : Int)) 0) : Int)))) (.side (0 = 0 ∧ o.length ≤ o.length ∧ (o.length + 1) * 4 ≤ 140737488355328) (.side (inR .i64 ((↑o.length : Int) + (1 : Int))) (.leaf (.back 0 [(0, .sl (canon x).length 1 (natG .u32 (canon x))), (1, .sl (canon y).length 1 (natG .u32 (canon y))), (5, .osl 0 1 0 (o.length + 1)), (6, .int .u32 1), (13, .sl (canon x).length 1 (natG .u32 (canon x))), (14, .int .i64 (↑(canon x).length : Int)), (15, .int .i64 ((↑o.length : Int) + (1 : Int)))] [.arr (o.length + 1) 1 (appG o.length (natG .u32 o) (zh (zc 1 [.int .u32 ((↑(List.getD (canon x) (Int.toNat (↑o.length : Int)) 0) : Int) + (1000000000 : Int) - ((↑c : Int) + (↑(List.getD (canon y) (Int.toNat (↑o.length : Int)) 0) : Int)))]) 0)), .arr 1 1 (zc 1 [.int .u32 ((↑(List.getD (canon x) (Int.toNat (↑o.length : Int)) 0) : Int) + (1000000000 : Int) - ((↑c : Int) + (↑(List.getD (canon y) (Int.toNat (↑o.length : Int)) 0) : Int)))])])))))) (.side (inR .u32 ((↑(List.getD (canon x) (Int.toNat (↑o.length : Int)) 0) : Int) - ((↑c : Int) + (↑(List.getD (canon y) (Int.toNat (↑o.length : Int)) 0) : Int)))) (.side (0 = 0 ∧ o.length ≤ o.length ∧ (o.length + 1) * 4 ≤ 140737488355328) (.side (inR .i64 ((↑o.length : Int) + (1 : Int))) (.leaf (.back 0 [(0, .sl (canon x).length 1 (natG .u32 (canon x))), (1, .sl (canon y).length 1 (natG .u32 (canon y))), (5, .osl 0 1 0 (o.length + 1)), (6, .int .u32 0), (13, .sl (canon x).length 1 (natG .u32 (canon x))), (14, .int .i64 (↑(canon x).length : Int)), (15, .int .i64 ((↑o.length : Int) + (1 : Int)))] [.arr (o.length + 1) 1 (appG o.length (natG .u32 o) (zh (zc 1 [.int .u32 ((↑(List.getD (canon x) (Int.toNat (↑o.length : Int)) 0) : Int) - ((↑c : Int) + (↑(List.getD (canon y) (Int.toNat (↑o.length : Int)) 0) : Int)))]) 0)), .arr 1 1 (zc 1 [.int .u32 ((↑(List.getD (canon x) (Int.toNat (↑o.length : Int)) 0) : Int) - ((↑c : Int) + (↑(List.getD (canon y) (Int.toNat (↑o.length : Int)) 0) : Int)))])])))))))) (.ite (decide ((↑(List.getD (canon x) (Int.toNat (↑o.length : Int)) 0) : Int) < c)) (.side (inR .u32 ((↑(List.getD (canon x) (Int.toNat (↑o.length : Int)) 0) : Int) + (1000000000 : Int))) (.side (inR .u32 ((↑(List.getD (canon x) (Int.toNat (↑o.length : Int)) 0) : Int) + (1000000000 : Int) - c)) (.side (0 = 0 ∧ o.length ≤ o.length ∧ (o.length + 1) * 4 ≤ 140737488355328) (.side (inR .i64 ((↑o.length : Int) + (1 : Int))) (.leaf (.back 0 [(0, .sl (canon x).length 1 (natG .u32 (canon x))), (1, .sl (canon y).length 1 (natG .u32 (canon y))), (5, .osl 0 1 0 (o.length + 1)), (6, .int .u32 1), (13, .sl (canon x).length 1 (natG .u32 (canon x))), (14, .int .i64 (↑(canon x).length : Int)), (15, .int .i64 ((↑o.length : Int) + (1 : Int)))] [.arr (o.length + 1) 1 (appG o.length (natG .u32 o) (zh (zc 1 [.int .u32 ((↑(List.getD (canon x) (Int.toNat (↑o.length : Int)) 0) : Int) + (1000000000 : Int) - c)]) 0)), .arr 1 1 (zc 1 [.int .u32 ((↑(List.getD (canon x) (Int.toNat (↑o.length : Int)) 0) : Int) + (1000000000 : Int) - c)])])))))) (.side (inR .u32 ((↑(List.getD (canon x) (Int.toNat (↑o.length : Int)) 0) : Int) - c)) (.side (0 = 0 ∧ o.length ≤ o.length ∧ (o.length + 1) * 4 ≤ 140737488355328) (.side (inR .i64 ((↑o.length : Int) + (1 : Int))) (.leaf (.back 0 [(0, .sl (canon x).length 1 (natG .u32 (canon x))), (1, .sl (canon y).length 1 (natG .u32 (canon y))), (5, .osl 0 1 0 (o.length + 1)), (6, .int .u32 0), (13, .sl (canon x).length 1 (natG .u32 (canon x))), (14, .int .i64 (↑(canon x).length : Int)), (15, .int .i64 ((↑o.length : Int) + (1 : Int)))] [.arr (o.length + 1) 1 (appG o.length (natG .u32 o) (zh (zc 1 [.int .u32 ((↑(List.getD (canon x) (Int.toNat (↑o.length : Int)) 0) : Int) - c)]) 0)), .arr 1 1 (zc 1 [.int .u32 ((↑(List.getD (canon x) (Int.toNat (↑o.length : Int)) 0) : Int) - c)])])))))))) (.ex (fun (u : List Nat) => u.length = o.length ∧ 0 + o.length ≤ o.length ∧ o.length < 4611686018427387904 ∧ eqG o.length 1 (natG .u32 o) (natG .u32 u) ∧ dig (List.take o.length (List.drop 0 u))) fun n => .all (fun (x : Nat) => x = val (List.take o.length (List.drop 0 n))) fun n => .leaf (.ret [.osl 0 1 0 (canon n).length] [.arr o.length 1 (natG .u32 o)]))) (by kernel_rfl) ?_
  simp only [Tree.holds, zd, inR, lo, hi, Int.toNat_natCast, kq]
  have ha := zA (zg x) o.length
  have hb := zA (zg y) o.length
  have hnext : ∀ d c' : Nat, d < B → c' ≤ 1 → o.length < (canon x).length → (canon x).getD o.length 0 + B * c' = d + (canon y).getD o.length 0 + c →
    ∃ s : I78 x y, s.o = o ++ [d] ∧ s.c = c' ∧ s.i = o.length + 1 := fun d c' h1 h2 h3 h4 =>
   ⟨⟨o ++ [d], c', o.length + 1, by simp, h3, qD.2 ⟨hd, by simp [dig, h1]⟩, h2, by rw [uQ]; exact za0 (x := x) (y := y) he h4⟩, rfl, rfl, rfl⟩
  refine ⟨fun hlt => ?_, fun hge => ?_⟩
  ·have hlt : o.length < (canon x).length := by simp at hlt; omega
   refine ⟨by omega, fun _ => ⟨fun hb2 => ⟨by simp at hb2; omega, fun _ => ⟨by omega, fun _ => ⟨fun hlt2 => ?_, fun hge2 => ?_⟩⟩⟩, fun hb2 => ⟨fun hlt2 => ?_, fun hge2 => ?_⟩⟩⟩
   ·simp only [decide_eq_true_eq] at hlt2
    refine ⟨by omega, fun _ => ⟨by omega, fun _ => ⟨⟨trivial, by omega, by omega⟩, fun _ => ⟨by omega, fun _ => ?_⟩⟩⟩⟩
    obtain ⟨s, h1, h2, h3⟩ := hnext ((canon x).getD o.length 0 + B - (c + (canon y).getD o.length 0)) 1 (by omega) (by omega) hlt (by omega)
    rw [if_pos trivial]
    refine ⟨s, by show _ - s.i < _; omega, by simp [S78, h1, h2, h3, magS, natS, za], by rw [h1]; exact wi (by omega), by kernel_rfl, Nat.zero_le _⟩
   ·simp only [decide_eq_false_iff_not] at hge2
    refine ⟨by omega, fun _ => ⟨⟨trivial, by omega, by omega⟩, fun _ => ⟨by omega, fun _ => ?_⟩⟩⟩
    obtain ⟨s, h1, h2, h3⟩ := hnext ((canon x).getD o.length 0 - (c + (canon y).getD o.length 0)) 0 (by omega) (by omega) hlt (by omega)
    rw [if_pos trivial]
    refine ⟨s, by show _ - s.i < _; omega, by simp [S78, h1, h2, h3, magS, natS, za], by rw [h1]; exact wi (by omega), by kernel_rfl, Nat.zero_le _⟩
   ·simp only [decide_eq_true_eq, decide_eq_false_iff_not] at hlt2 hb2
    have hb0 : (canon y).getD o.length 0 = 0 := by simp [List.getD, List.getElem?_eq_none (show (canon y).length ≤ o.length by omega)]
    refine ⟨by omega, fun _ => ⟨by omega, fun _ => ⟨⟨trivial, by omega, by omega⟩, fun _ => ⟨by omega, fun _ => ?_⟩⟩⟩⟩
    obtain ⟨s, h1, h2, h3⟩ := hnext ((canon x).getD o.length 0 + B - c) 1 (by omega) (by omega) hlt (by omega)
    rw [if_pos trivial]
    refine ⟨s, by show _ - s.i < _; omega, by simp [S78, h1, h2, h3, magS, natS, za], by rw [h1]; exact wi (by omega), by kernel_rfl, Nat.zero_le _⟩
   ·simp only [decide_eq_false_iff_not] at hge2 hb2
    have hb0 : (canon y).getD o.length 0 = 0 := by simp [List.getD, List.getElem?_eq_none (show (canon y).length ≤ o.length by omega)]
    refine ⟨by omega, fun _ => ⟨⟨trivial, by omega, by omega⟩, fun _ => ⟨by omega, fun _ => ?_⟩⟩⟩
    obtain ⟨s, h1, h2, h3⟩ := hnext ((canon x).getD o.length 0 - c) 0 (by omega) (by omega) hlt (by omega)
    rw [if_pos trivial]
    refine ⟨s, by show _ - s.i < _; omega, by simp [S78, h1, h2, h3, magS, natS, za], by rw [h1]; exact wi (by omega), by kernel_rfl, Nat.zero_le _⟩
  ·have hge : o.length = (canon x).length := by simp at hge; omega
   have hv : val o = x - y := by
    have h1 := zT hd
    rw [hge, List.take_length, List.take_of_length_le hlen, zi, zi] at he
    have : c = 0 := by
     rcases Nat.lt_or_ge c 1 with h | h
     ·omega
     ·have : c = 1 := by omega
      subst this
      rw [hge] at h1
      omega
    subst this
    omega
   refine ⟨o, ⟨rfl, by omega, by omega, za _ _ _, by simpa using hd⟩, ⟨_, rfl⟩, ?_⟩
   intro X hX
   have hX : X = x - y := by simpa [hv] using hX
   subst hX
   have htr : qg o = canon (x - y) := by rw [zD hd, hv]
   have htl : (canon (x - y)).length = tlen o := by rw [← htr, qg, List.length_take]; have := zO o; omega
   rw [htl]
   refine ⟨[], rfl, by simp, by simp, fun _ => ⟨QO, by simp⟩, magS (x - y), [], qb ?_, by simp [expH], rfl, hq⟩
   simp only [resV, exp2, exp1, QM]
   exact Z1 htr
end Go.Proofs.Try
end

/- The integers' magnitudes: short division, the guess of a digit, products. -/
section
set_option maxRecDepth 100000
open Go Go.Sx Go.Proofs Go.Nov
namespace Go.Proofs.Try
attribute [local simp] eqKV eqA eqA0 eqH eqB eqL eqL0
noncomputable def K89 : List Go.Sx.Item := [.code (Try.f89.body.getD .skip)]
noncomputable def K90 : List Go.Sx.Item := [.code (Try.f90.body.getD .skip)]
theorem VL (m n : Nat) : Int.tdiv (m : Int) (n : Int) = ((m / n : Nat) : Int) := rfl
theorem Vo (m n : Nat) : Int.tmod (m : Int) (n : Int) = ((m % n : Nat) : Int) := rfl
theorem xQ (k : IntKind) (n : Nat) : eqG n 1 (jS [.int k 0]) (natG k (List.replicate n 0)) := by
 intro j o hj ho
 have : o = 0 := by omega
 subst this
 simp [jS, natG, hj]
theorem JE {l : List Nat} {k : Nat} (hk : k < l.length) : l.drop k = l.getD k 0 :: l.drop (k + 1) := by
 rw [List.drop_eq_getElem_cons hk]
 simp [List.getD, hk]
def KM : Ctr := ctrP true (fun p : Nat × Nat => [magS p.1, .int .u32 (p.2 : Int)]) (fun p => fits p.1 ∧ 0 < p.2 ∧ p.2 < B) (fun p (r : Nat × Nat) => r = (p.1 / p.2, p.1 % p.2)) (fun _ r => (.tup [magS r.1, .int .u32 (r.2 : Int)], []))
def S74 (x d : Nat) (o : List Nat) (r k : Nat) : KV := [(0, magS x), (1, .int .u32 (d : Int)), (4, .osl 0 1 0 o.length), (6, .int .u64 (r : Int)), (7, .int .i64 ((k : Int) - 1))]
structure I74 (x d : Nat) where
 o : List Nat
 r : Nat
 k : Nat
 len : o.length = (canon x).length
 le : k ≤ (canon x).length
 rd : r < d
 dg : dig (o.drop k)
 eq : val ((canon x).drop k) = d * val (o.drop k) + r
theorem KW : ze Try.prog 89 KM := by
 refine zr (fn := Try.f89) (c := Try.f89.body.getD .skip) rfl rfl rfl fun p hp O w0 Q hq => ?_
 replace hq := hq _ rfl
 obtain ⟨x, d⟩ := p
 obtain ⟨hx, hd0, hdB⟩ := hp
 simp only [fits] at hx hd0 hdB hq
 have hB : B = 1000000000 := rfl
 refine zb.run hmix xj [0, 1, 4, 6, 7] 400 (T := .side ((0 : Int) ≤ (↑(canon x).length : Int) ∧ (↑(canon x).length : Int) ≤ (↑(canon x).length : Int) ∧ inR .i64 (↑(canon x).length : Int) ∧ Int.toNat (↑(canon x).length : Int) * 4 ≤ 140737488355328) (.side (inR .i64 ((↑(canon x).length : Int) - (1 : Int))) (.leaf (.loop (Prod.fst (lps K89 0)) (Prod.snd (lps K89 0)) [(0, .sl (canon x).length 1 (natG .u32 (canon x))), (1, .int .u32 d), (4, .osl 0 1 0 (Int.toNat (↑(canon x).length : Int))), (6, .int .u64 0), (7, .int .i64 ((↑(canon x).length : Int) - (1 : Int)))] [.arr (Int.toNat (↑(canon x).length : Int)) 1 (jS [.int .u32 0])])))) (by kernel_rfl) ?_
 simp only [Tree.holds, zd, inR, lo, hi]
 refine ⟨by omega, fun _ => ⟨by omega, fun _ => ?_⟩⟩
 refine zb.loop (ι := I74 x d) (fun s => S74 x d s.o s.r s.k) (fun s => [.arr s.o.length 1 (natG .u32 s.o)]) (fun s => s.k) ⟨List.replicate (canon x).length 0, 0, (canon x).length, by simp, Nat.le_refl _, hd0, by simp [dig], by simp [val]⟩ 0 ?_ ?_ (by kernel_rfl)
 ·exact ⟨by simp [S74, magS, natS, za], by simp [xQ], by kernel_rfl, Nat.zero_le _⟩
 ·rintro ⟨o, r, k, hlen, hle, hr, hdg, he⟩
  refine zb.run hmix xj [0, 1, 4, 6, 7] 400 (T := .ite (decide ((0 : Int) ≤ k - (1 : Int))) (.side (inR .u64 ((↑r : Int) * (1000000000 : Int))) (.side ((0 : Int) ≤ k - (1 : Int) ∧ (↑k : Int) - (1 : Int) < (↑(canon x).length : Int)) (.side (inR .u64 (↑(List.getD (canon x) (Int.toNat ((↑k : Int) - (1 : Int))) 0) : Int)) (.side (inR .u64 ((↑r : Int) * (1000000000 : Int) + (↑(List.getD (canon x) (Int.toNat ((↑k : Int) - (1 : Int))) 0) : Int))) (.side (inR .u64 (↑d : Int)) (.side ((↑d : Int) ≠ 0 ∧ inR .u64 (Int.tdiv ((↑r : Int) * (1000000000 : Int) + (↑(List.getD (canon x) (Int.toNat ((↑k : Int) - (1 : Int))) 0) : Int)) (↑d : Int))) (.side (inR .u32 (Int.tdiv ((↑r : Int) * (1000000000 : Int) + (↑(List.getD (canon x) (Int.toNat ((↑k : Int) - (1 : Int))) 0) : Int)) (↑d : Int))) (.side (inR .u64 (↑d : Int)) (.side ((↑d : Int) ≠ 0) (.side ((0 : Int) ≤ k - (1 : Int) ∧ (↑k : Int) - (1 : Int) < o.length) (.side (inR .i64 ((↑k : Int) - (1 : Int) - (1 : Int))) (.leaf (.back 0 [(0, .sl (canon x).length 1 (natG .u32 (canon x))), (1, .int .u32 d), (4, .osl 0 1 0 o.length), (6, .int .u64 (Int.tmod ((↑r : Int) * (1000000000 : Int) + (↑(List.getD (canon x) (Int.toNat ((↑k : Int) - (1 : Int))) 0) : Int)) (↑d : Int))), (7, .int .i64 ((↑k : Int) - (1 : Int) - (1 : Int)))] [.arr o.length 1 (updG (natG .u32 o) (0 + Int.toNat ((↑k : Int) - (1 : Int))) 0 [.int .u32 (Int.tdiv ((↑r : Int) * (1000000000 : Int) + (↑(List.getD (canon x) (Int.toNat ((↑k : Int) - (1 : Int))) 0) : Int)) (↑d : Int))])]))))))))))))) (.ex (fun (u : List Nat) => u.length = o.length ∧ 0 + o.length ≤ o.length ∧ o.length < 4611686018427387904 ∧ eqG o.length 1 (natG .u32 o) (natG .u32 u) ∧ dig (List.take o.length (List.drop 0 u))) fun n => .all (fun (x : Nat) => x = val (List.take o.length (List.drop 0 n))) fun n => .side (inR .u32 (↑r : Int)) (.leaf (.ret [.osl 0 1 0 (canon n).length, .int .u32 r] [.arr o.length 1 (natG .u32 o)])))) (by kernel_rfl) ?_
  have e : ((k : Int) - 1).toNat = k - 1 := by omega
  have ha := zA (zg x) (k - 1)
  have ev : ((r : Int) * 1000000000 + ((canon x).getD (k - 1) 0 : Nat)) = ((r * B + (canon x).getD (k - 1) 0 : Nat) : Int) := by simp
  simp only [Tree.holds, zd, inR, lo, hi, e, ev, VL, Vo, kq]
  generalize hv : r * B + (canon x).getD (k - 1) 0 = v
  have hvd : v < d * B := by
   have : (r + 1) * B ≤ d * B := Nat.mul_le_mul_right _ hr
   rw [Nat.add_mul] at this
   omega
  have hq1 : v / d < B := Nat.div_lt_of_lt_mul hvd
  have hr1 : v % d < d := Nat.mod_lt _ hd0
  have hdm := Nat.div_add_mod v d
  generalize v / d = q at hq1 hdm ⊢
  generalize v % d = rr at hr1 hdm ⊢
  have hdB2 : d * B < B * B := Nat.mul_lt_mul_of_pos_right hdB (by decide)
  rw [hB] at hdB2
  refine ⟨fun hk => ?_, fun hk => ?_⟩
  ·have hk : 0 < k := by simp at hk; omega
   refine ⟨by omega, fun _ => ⟨by omega, fun _ => ⟨by omega, fun _ => ⟨by omega, fun _ => ⟨by omega, fun _ => ⟨⟨by omega, by omega, by omega⟩, fun _ => ⟨by omega, fun _ => ⟨by omega, fun _ => ⟨by omega, fun _ => ⟨by omega, fun _ => ⟨by omega, fun _ => ?_⟩⟩⟩⟩⟩⟩⟩⟩⟩⟩⟩
   rw [if_pos trivial]
   have hkl : k - 1 < o.length := by omega
   have hdr : (o.set (k - 1) (q)).drop (k - 1) = (q) :: o.drop k := by
    rw [JE (by simpa using hkl)]
    rw [show k - 1 + 1 = k by omega, List.drop_set_of_lt (by omega)]
    simp [hkl]
   refine ⟨⟨o.set (k - 1) (q), rr, k - 1, by simpa using hlen, by omega, hr1, by rw [hdr]; exact qk.2 ⟨hq1, hdg⟩, ?_⟩, by show k - 1 < k; omega, by simp [S74, magS, natS, za]; omega, ?_, by kernel_rfl, Nat.zero_le _⟩
   ·rw [hdr, JE (by omega), show k - 1 + 1 = k by omega]
    simp only [val, he]
    rw [Nat.mul_add, Nat.mul_add, ← Nat.mul_assoc, ← Nat.mul_assoc, Nat.mul_comm d B]
    have h5 : B * r = r * B := Nat.mul_comm _ _
    omega
   ·refine ⟨⟨by simp, rfl, ?_⟩, trivial⟩
    have := wJ (k := .u32) (l := o) (v := ((q : Nat) : Int)) (i := k - 1) (by omega) hkl
    simpa using this
  ·have hk : k = 0 := by simp at hk; omega
   subst hk
   simp only [List.drop_zero] at he hdg
   rw [zi] at he
   have hqv : val o = x / d := by
    rw [he, Nat.mul_add_div hd0, Nat.div_eq_of_lt hr, Nat.add_zero]
   have hrv : r = x % d := by rw [he, Nat.mul_add_mod, Nat.mod_eq_of_lt hr]
   have htr : qg o = canon (x / d) := by rw [zD hdg, hqv]
   refine ⟨o, ⟨rfl, by omega, by omega, za _ _ _, by simpa using hdg⟩, ⟨_, rfl⟩, ?_⟩
   intro X hX
   have hX : X = x / d := by simpa [hqv] using hX
   subst hX
   have htl : (canon (x / d)).length = tlen o := by rw [← htr, qg, List.length_take]; have := zO o; omega
   rw [htl]
   refine ⟨by omega, fun _ => ?_⟩
   refine ⟨[], rfl, by simp, by simp, fun _ => ⟨?_, by simp⟩, _, [], qb ?_, by simp [expH], rfl, hq⟩
   ·simp only [resV, new2]
    intro a ha
    rcases List.mem_cons.1 ha with rfl | ha
    ·exact QO
    ·simp only [List.mem_singleton] at ha; subst ha; rfl
   ·simp only [resV, exp2, List.map_cons, List.map_nil, exp1, QM, eqA2, eqL1]
    exact ⟨Z1 htr, by simp [eqA, exp0, ren0, hrv], trivial⟩
structure D5 where
 t : Nat
 u : Nat
 v : Nat
 y : Nat
 z : Nat
def Yr : Ctr := ctrP true (fun p : D5 => [.int .u64 (p.t : Int), .int .u64 (p.u : Int), .int .u64 (p.v : Int), .int .u64 (p.y : Int), .int .u64 (p.z : Int)])
 (fun p => p.t ≤ p.y ∧ p.u < B ∧ p.v < B ∧ p.y < B ∧ p.z < B ∧ B ≤ 2 * p.y) (fun p n => n = qA p.v p.y p.z 2 ((p.t * B + p.u) / p.y) ((p.t * B + p.u) % p.y)) (fun _ n => (.int .u64 (n : Int), []))
def S77 (v y z q r : Nat) : KV := [(2, .int .u64 (v : Int)), (3, .int .u64 (y : Int)), (4, .int .u64 (z : Int)), (12, .int .u64 (q : Int)), (13, .int .u64 (r : Int))]
structure I77 (v y z R : Nat) where
 q : Nat
 r : Nat
 n : Nat
 rB : r < B
 qB : q ≤ B + 1
 nB : B ≤ r + n * y
 eq : qA v y z n q r = R
theorem X7 : ze Try.prog 90 Yr := by
 refine zr (fn := Try.f90) (c := Try.f90.body.getD .skip) rfl rfl rfl fun p hp O w0 Q hq => ?_
 replace hq := hq _ rfl
 obtain ⟨t, u, v, y, z⟩ := p
 simp only at hq
 obtain ⟨h1, h2, h3, h4, h5, h6⟩ := hp
 simp only at h1 h2 h3 h4 h5 h6
 have hB : B = 1000000000 := rfl
 refine zb.run hmix zG [2, 3, 4, 12, 13] 400 (T := .side (inR .u64 ((↑t : Int) * (1000000000 : Int))) (.side (inR .u64 ((↑t : Int) * (1000000000 : Int) + u)) (.side ((↑y : Int) ≠ 0 ∧ inR .u64 (Int.tdiv ((↑t : Int) * (1000000000 : Int) + u) (↑y : Int))) (.side ((↑y : Int) ≠ 0) (.leaf (.loop (Prod.fst (lps K90 0)) (Prod.snd (lps K90 0)) [(2, .int .u64 v), (3, .int .u64 y), (4, .int .u64 z), (12, .int .u64 (Int.tdiv ((↑t : Int) * (1000000000 : Int) + u) (↑y : Int))), (13, .int .u64 (Int.tmod ((↑t : Int) * (1000000000 : Int) + u) (↑y : Int)))] [])))))) (by kernel_rfl) ?_
 have ev : ((t : Int) * 1000000000 + (u : Int)) = ((t * B + u : Nat) : Int) := by simp
 simp only [Tree.holds, zd, inR, lo, hi, ev, VL, Vo]
 have hy : 0 < y := by omega
 have hr : (t * B + u) % y < y := Nat.mod_lt _ hy
 have hq1 : (t * B + u) / y ≤ B + 1 := by
  have h7 : t * B ≤ y * B := Nat.mul_le_mul_right _ h1
  have : (t * B + u) / y < B + 2 := by
   apply Nat.div_lt_of_lt_mul
   rw [Nat.mul_add]
   omega
  omega
 have hst : t * 1000000000 ≤ 1000000000 * 1000000000 := Nat.mul_le_mul_right _ (by omega)
 generalize hR : qA v y z 2 ((t * B + u) / y) ((t * B + u) % y) = R at hq
 generalize hqq : (t * B + u) / y = q at hq1 hR ⊢
 generalize hrr : (t * B + u) % y = r at hr hR ⊢
 refine ⟨by omega, fun _ => ⟨by omega, fun _ => ⟨⟨by omega, by omega, by omega⟩, fun _ => ⟨by omega, fun _ => ?_⟩⟩⟩⟩
 refine zb.loop (ι := I77 v y z R) (fun s => S77 v y z s.q s.r) (fun _ => []) (fun s => s.n) ⟨q, r, 2, by omega, hq1, by omega, hR⟩ 0 ?_ ?_ (by kernel_rfl)
 ·exact ⟨by simp [S77], by simp, by kernel_rfl, Nat.zero_le _⟩
 ·rintro ⟨q, r, n, hrB, hqB, hnB, hR⟩
  refine zb.run hmix zG [2, 3, 4, 12, 13] 400 (T := .side (decide ((1000000000 : Int) ≤ q) = false → inR .u64 ((↑q : Int) * z)) (.side (decide ((1000000000 : Int) ≤ q) = false → inR .u64 ((↑r : Int) * (1000000000 : Int))) (.side (decide ((1000000000 : Int) ≤ q) = false → inR .u64 ((↑r : Int) * (1000000000 : Int) + v)) (.ite (bif decide ((1000000000 : Int) ≤ q) then true else decide ((↑r : Int) * (1000000000 : Int) + v < (↑q : Int) * z)) (.side (inR .u64 ((↑q : Int) - (1 : Int))) (.side (inR .u64 ((↑r : Int) + y)) (.ite (decide ((1000000000 : Int) ≤ r + (↑y : Int))) (.leaf (.ret [.int .u64 ((↑q : Int) - (1 : Int))] [])) (.leaf (.back 0 [(2, .int .u64 v), (3, .int .u64 y), (4, .int .u64 z), (12, .int .u64 ((↑q : Int) - (1 : Int))), (13, .int .u64 ((↑r : Int) + y))] []))))) (.leaf (.ret [.int .u64 q] [])))))) (by kernel_rfl) ?_
  simp only [Tree.holds, zd, inR, lo, hi, Bool.cond_eq_ite]
  have hqz : q * z ≤ 1000000001 * 1000000000 := Nat.mul_le_mul (by omega) (by omega)
  have eqz : ((q : Int) * (z : Int)) = ((q * z : Nat) : Int) := by simp
  rw [eqz]
  have hrb : r * B = 1000000000 * r := Nat.mul_comm _ _
  generalize hp : q * z = p at hqz ⊢
  refine ⟨fun _ => by omega, fun _ => ⟨fun _ => by omega, fun _ => ⟨fun _ => by omega, fun _ => ⟨fun hc => ?_, fun hc => ?_⟩⟩⟩⟩
  ·have hcond : B ≤ q ∨ r * B + v < q * z := by
    rw [hp]
    split at hc
    ·rename_i h; simp only [decide_eq_true_eq] at h; left; omega
    ·simp only [decide_eq_true_eq] at hc; right; omega
   have hq0 : 0 < q := by
    rcases Nat.eq_zero_or_pos q with rfl | h
    ·simp at hcond
    ·exact h
   cases n with
   | zero => omega
   | succ n =>
    simp only [qA, if_pos hcond] at hR
    refine ⟨by omega, fun _ => ⟨by omega, fun _ => ⟨fun hb => ?_, fun hb => ?_⟩⟩⟩
    ·rw [if_pos (by simp at hb; omega)] at hR
     refine RetR.scal hq rfl ?_
     simp only [resV]; congr 1; omega
    ·rw [if_neg (by simp at hb; omega)] at hR
     rw [if_pos trivial]
     refine ⟨⟨q - 1, r + y, n, by simp at hb; omega, by omega, by rw [Nat.add_mul] at hnB; omega, hR⟩, by show n < n + 1; omega, by simp [S77]; omega, by simp, by kernel_rfl, Nat.zero_le _⟩
  ·have hcond : ¬ (B ≤ q ∨ r * B + v < q * z) := by
    rw [hp]
    split at hc
    ·cases hc
    ·rename_i h; simp only [decide_eq_true_eq, decide_eq_false_iff_not] at h hc; omega
   refine RetR.scal hq rfl ?_
   have : qA v y z n q r = q := by
    cases n with
    | zero => rfl
    | succ n => simp only [qA, if_neg hcond]
   simp only [resV]; congr 1; omega
end Go.Proofs.Try
end

/- The integers' magnitudes: products. -/
section
set_option maxRecDepth 100000
open Go Go.Sx Go.Proofs Go.Nov
namespace Go.Proofs.Try
attribute [local simp] eqKV eqA eqA0 eqH eqB eqL eqL0
noncomputable def K67 : List Go.Sx.Item := [.code (Try.f67.body.getD .skip)]
theorem heap_set {k : IntKind} {o : List Nat} {v : Int} {i d i' : Nat} (hv : v = d) (hi : i < o.length) (hi' : i' = i) : eqH [.arr o.length 1 (updG (natG k o) i' 0 [.int k v])] [.arr (o.set i d).length 1 (natG k (o.set i d))] := by
 subst hv
 subst hi'
 refine ⟨⟨by simp, rfl, ?_⟩, by simp [eqH]⟩
 have := wJ (k := k) (l := o) (v := (d : Int)) (by omega) hi
 simpa using this
def Vf : Ctr := ctr2 true (fun x y => fits x ∧ fits y)
 (fun x y p => p = x * y) (fun x y p => (.osl 0 1 0 (canon p).length, [.arr ((canon x).length + (canon y).length) 1 (natG .u32 (padN ((canon x).length + (canon y).length) p))]))
def S76 (x y i : Nat) (o : List Nat) : KV := [(0, magS x), (1, magS y), (5, .osl 0 1 0 o.length), (6, .undef), (7, .undef), (8, .undef), (18, magS x), (19, .int .i64 ((canon x).length : Nat)), (20, .int .i64 (i : Int)), (25, .undef), (26, .undef), (27, .undef)]
def S76b (x y i j c : Nat) (o : List Nat) : KV := [(0, magS x), (1, magS y), (5, .osl 0 1 0 o.length), (6, .int .i64 (i : Int)), (7, .int .u32 ((canon x).getD i 0 : Nat)), (8, .int .u64 (c : Int)), (18, magS x), (19, .int .i64 ((canon x).length : Nat)), (20, .int .i64 (i : Int)), (25, magS y), (26, .int .i64 ((canon y).length : Nat)), (27, .int .i64 (j : Int))]
structure I76 (x y : Nat) where
 o : List Nat
 i : Nat
 len : o.length = (canon x).length + (canon y).length
 le : i ≤ (canon x).length
 dg : dig o
 eq : val o = val ((canon x).take i) * y
structure I76b (x y i V : Nat) where
 o : List Nat
 c : Nat
 j : Nat
 len : o.length = (canon x).length + (canon y).length
 le : j ≤ (canon y).length
 dg : dig o
 cB : c < B
 z : ∀ p, i + (canon y).length ≤ p → o.getD p 0 = 0
 eq : val o + B ^ i * B ^ j * c = V + B ^ i * (canon x).getD i 0 * val ((canon y).take j)
theorem Wa {o' Pi Pj op d v a b' c c' V vt vo : Nat} (h1 : o' + Pi*Pj * op = vo + Pi*Pj * d) (h2 : vo + Pi*Pj * c = V + Pi * a * vt) (h3 : B * c' + d = v) (h4 : v = a * b' + op + c) : o' + Pi*(Pj*B) * c' = V + Pi * a * (vt + Pj * b') := by grind
theorem Jp : ze Try.prog 67 Vf := by
 refine xA (fn := Try.f67) (c := Try.f67.body.getD .skip) rfl rfl rfl fun x y hp O w0 Q hq => ?_
 replace hq := hq _ rfl
 obtain ⟨hx, hy⟩ := hp
 simp only [fits] at hx hy hq
 have hB : B = 1000000000 := rfl
 refine zb.run hmix xj [0, 1, 5, 6, 7, 8, 18, 19, 20, 25, 26, 27] 400 (T := .side (inR .i64 ((↑(canon x).length : Int) + (↑(canon y).length : Int))) (.side ((0 : Int) ≤ (↑(canon x).length : Int) + (↑(canon y).length : Int) ∧ (↑(canon x).length : Int) + (↑(canon y).length : Int) ≤ (↑(canon x).length : Int) + (↑(canon y).length : Int) ∧ inR .i64 ((↑(canon x).length : Int) + (↑(canon y).length : Int)) ∧ Int.toNat ((↑(canon x).length : Int) + (↑(canon y).length : Int)) * 4 ≤ 140737488355328) (.leaf (.loop (Prod.fst (lps K67 0)) (Prod.snd (lps K67 0)) [(0, .sl (canon x).length 1 (natG .u32 (canon x))), (1, .sl (canon y).length 1 (natG .u32 (canon y))), (5, .osl 0 1 0 (Int.toNat ((↑(canon x).length : Int) + (↑(canon y).length : Int)))), (6, .undef), (7, .undef), (8, .undef), (18, .sl (canon x).length 1 (natG .u32 (canon x))), (19, .int .i64 (↑(canon x).length : Int)), (20, .int .i64 0), (25, .undef), (26, .undef), (27, .undef)] [.arr (Int.toNat ((↑(canon x).length : Int) + (↑(canon y).length : Int))) 1 (jS [.int .u32 0])])))) (by kernel_rfl) ?_
 simp only [Tree.holds, zd, inR, lo, hi]
 have esum : ((canon x).length : Int) + ((canon y).length : Int) = (((canon x).length + (canon y).length : Nat) : Int) := by omega
 simp only [esum, Int.toNat_natCast]
 refine ⟨by omega, fun _ => ⟨by omega, fun _ => ?_⟩⟩
 refine zb.loop (ι := I76 x y) (fun s => S76 x y s.i s.o) (fun s => [.arr s.o.length 1 (natG .u32 s.o)]) (fun s => (canon x).length - s.i) ⟨List.replicate ((canon x).length + (canon y).length) 0, 0, by simp, Nat.zero_le _, q6 _, by simp [qZ, val]⟩ 0 ?_ ?_ (by kernel_rfl)
 ·exact ⟨by simp [S76, magS, natS, za], by simp [xQ], by kernel_rfl, Nat.zero_le _⟩
 ·rintro ⟨o, i, hlen, hle, hd, he⟩
  refine zb.run hmix xj [0, 1, 5, 6, 7, 8, 18, 19, 20, 25, 26, 27] 400 (T := .ite (decide ((↑i : Int) < (↑(canon x).length : Int))) (.side ((0 : Int) ≤ i ∧ (↑i : Int) < (↑(canon x).length : Int)) (.leaf (.loop (Prod.fst (lps (inside K67 0) 0)) (Prod.snd (lps (inside K67 0) 0)) [(0, .sl (canon x).length 1 (natG .u32 (canon x))), (1, .sl (canon y).length 1 (natG .u32 (canon y))), (5, .osl 0 1 0 o.length), (6, .int .i64 i), (7, .int .u32 (↑(List.getD (canon x) (Int.toNat (↑i : Int)) 0) : Int)), (8, .int .u64 0), (18, .sl (canon x).length 1 (natG .u32 (canon x))), (19, .int .i64 (↑(canon x).length : Int)), (20, .int .i64 i), (25, .sl (canon y).length 1 (natG .u32 (canon y))), (26, .int .i64 (↑(canon y).length : Int)), (27, .int .i64 0)] [.arr o.length 1 (natG .u32 o)]))) (.ex (fun (u : List Nat) => u.length = o.length ∧ 0 + o.length ≤ o.length ∧ o.length < 4611686018427387904 ∧ eqG o.length 1 (natG .u32 o) (natG .u32 u) ∧ dig (List.take o.length (List.drop 0 u))) fun n => .all (fun (x : Nat) => x = val (List.take o.length (List.drop 0 n))) fun n => .leaf (.ret [.osl 0 1 0 (canon n).length] [.arr o.length 1 (natG .u32 o)]))) (by kernel_rfl) ?_
  simp only [Tree.holds, zd, inR, lo, hi, Int.toNat_natCast, kq]
  have hz : ∀ p, i + (canon y).length ≤ p → o.getD p 0 = 0 := by
   intro p hp
   refine uZ (n := i + (canon y).length) ?_ hp
   rw [he, Nat.pow_add]
   have h1 := zT (qY (zg x) i)
   have h2 := zT (zg y)
   rw [zi] at h2
   have h3 : B ^ ((canon x).take i).length = B ^ i := by rw [List.length_take, Nat.min_eq_left hle]
   rw [h3] at h1
   exact Nat.mul_lt_mul_of_lt_of_le h1 (Nat.le_of_lt h2) (Nat.pow_pos (by decide))
  refine ⟨fun hlt => ⟨by simp at hlt; omega, fun _ => ?_⟩, fun hge => ?_⟩
  ·have hlt : i < (canon x).length := by simp at hlt; omega
   refine zb.loop (ι := I76b x y i (val o)) (fun s => S76b x y i s.j s.c s.o) (fun s => [.arr s.o.length 1 (natG .u32 s.o)]) (fun s => (canon y).length - s.j) ⟨o, 0, 0, hlen, Nat.zero_le _, hd, by decide, hz, by simp [val]⟩ 1 ?_ ?_ (by kernel_rfl)
   ·exact ⟨by simp [S76b, magS, natS, za], by simp [za], by kernel_rfl, Nat.zero_le _⟩
   ·rintro ⟨o2, c, j, hlen2, hle2, hd2, hcB, hz2, he2⟩
    refine zb.run hmix xj [0, 1, 5, 6, 7, 8, 18, 19, 20, 25, 26, 27] 400 (T := .ite (decide ((↑j : Int) < (↑(canon y).length : Int))) (.side ((0 : Int) ≤ j ∧ (↑j : Int) < (↑(canon y).length : Int)) (.side (inR .u64 (↑(List.getD (canon x) i 0) : Int)) (.side (inR .u64 (↑(List.getD (canon y) (Int.toNat (↑j : Int)) 0) : Int)) (.side (inR .u64 ((↑(List.getD (canon x) i 0) : Int) * (↑(List.getD (canon y) (Int.toNat (↑j : Int)) 0) : Int))) (.side (inR .i64 ((↑i : Int) + j)) (.side ((0 : Int) ≤ i + (↑j : Int) ∧ (↑i : Int) + j < (↑o2.length : Int)) (.side (inR .u64 (↑(List.getD o2 (0 + Int.toNat ((↑i : Int) + j)) 0) : Int)) (.side (inR .u64 ((↑(List.getD (canon x) i 0) : Int) * (↑(List.getD (canon y) (Int.toNat (↑j : Int)) 0) : Int) + (↑(List.getD o2 (0 + Int.toNat ((↑i : Int) + j)) 0) : Int))) (.side (inR .u64 ((↑(List.getD (canon x) i 0) : Int) * (↑(List.getD (canon y) (Int.toNat (↑j : Int)) 0) : Int) + (↑(List.getD o2 (0 + Int.toNat ((↑i : Int) + j)) 0) : Int) + c)) (.side (inR .i64 ((↑i : Int) + j)) (.side ((1000000000 : Int) ≠ 0) (.side (inR .u32 (Int.tmod ((↑(List.getD (canon x) i 0) : Int) * (↑(List.getD (canon y) (Int.toNat (↑j : Int)) 0) : Int) + (↑(List.getD o2 (0 + Int.toNat ((↑i : Int) + j)) 0) : Int) + c) (1000000000 : Int))) (.side ((1000000000 : Int) ≠ 0 ∧ inR .u64 (Int.tdiv ((↑(List.getD (canon x) i 0) : Int) * (↑(List.getD (canon y) (Int.toNat (↑j : Int)) 0) : Int) + (↑(List.getD o2 (0 + Int.toNat ((↑i : Int) + j)) 0) : Int) + c) (1000000000 : Int))) (.side ((0 : Int) ≤ i + (↑j : Int) ∧ (↑i : Int) + j < (↑o2.length : Int)) (.side (inR .i64 ((↑j : Int) + (1 : Int))) (.leaf (.back 1 [(0, .sl (canon x).length 1 (natG .u32 (canon x))), (1, .sl (canon y).length 1 (natG .u32 (canon y))), (5, .osl 0 1 0 o2.length), (6, .int .i64 i), (7, .int .u32 (↑(List.getD (canon x) i 0) : Int)), (8, .int .u64 (Int.tdiv ((↑(List.getD (canon x) i 0) : Int) * (↑(List.getD (canon y) (Int.toNat (↑j : Int)) 0) : Int) + (↑(List.getD o2 (0 + Int.toNat ((↑i : Int) + j)) 0) : Int) + c) (1000000000 : Int))), (18, .sl (canon x).length 1 (natG .u32 (canon x))), (19, .int .i64 (↑(canon x).length : Int)), (20, .int .i64 i), (25, .sl (canon y).length 1 (natG .u32 (canon y))), (26, .int .i64 (↑(canon y).length : Int)), (27, .int .i64 ((↑j : Int) + (1 : Int)))] [.arr o2.length 1 (updG (natG .u32 o2) (0 + Int.toNat ((↑i : Int) + j)) 0 [.int .u32 (Int.tmod ((↑(List.getD (canon x) i 0) : Int) * (↑(List.getD (canon y) (Int.toNat (↑j : Int)) 0) : Int) + (↑(List.getD o2 (0 + Int.toNat ((↑i : Int) + j)) 0) : Int) + c) (1000000000 : Int))])]))))))))))))))))) (.side (inR .i64 ((↑i : Int) + (↑(canon y).length : Int))) (.side ((0 : Int) ≤ i + (↑(canon y).length : Int) ∧ (↑i : Int) + (↑(canon y).length : Int) < o2.length) (.side (inR .u32 (↑c : Int)) (.side (inR .u32 ((↑(List.getD o2 (0 + Int.toNat ((↑i : Int) + (↑(canon y).length : Int))) 0) : Int) + c)) (.side ((0 : Int) ≤ i + (↑(canon y).length : Int) ∧ (↑i : Int) + (↑(canon y).length : Int) < o2.length) (.side (inR .i64 ((↑i : Int) + (1 : Int))) (.leaf (.back 0 [(0, .sl (canon x).length 1 (natG .u32 (canon x))), (1, .sl (canon y).length 1 (natG .u32 (canon y))), (5, .osl 0 1 0 o2.length), (6, .int .i64 i), (7, .int .u32 (↑(List.getD (canon x) i 0) : Int)), (8, .int .u64 c), (18, .sl (canon x).length 1 (natG .u32 (canon x))), (19, .int .i64 (↑(canon x).length : Int)), (20, .int .i64 ((↑i : Int) + (1 : Int))), (25, .sl (canon y).length 1 (natG .u32 (canon y))), (26, .int .i64 (↑(canon y).length : Int)), (27, .int .i64 j)] [.arr o2.length 1 (updG (natG .u32 o2) (0 + Int.toNat ((↑i : Int) + (↑(canon y).length : Int))) 0 [.int .u32 ((↑(List.getD o2 (0 + Int.toNat ((↑i : Int) + (↑(canon y).length : Int))) 0) : Int) + c)])]))))))))) (by kernel_rfl) ?_
    have ha := zA (zg x) i
    have hb := zA (zg y) j
    have ho := zA hd2 (i + j)
    have e1 : ((i : Int) + (j : Int)) = ((i + j : Nat) : Int) := by omega
    have e2 : ((i : Int) + ((canon y).length : Int)) = ((i + (canon y).length : Nat) : Int) := by omega
    simp only [Tree.holds, zd, inR, lo, hi, e1, e2, Int.toNat_natCast, Nat.zero_add]
    have e3 : (((canon x).getD i 0 : Nat) : Int) * (((canon y).getD j 0 : Nat) : Int) = (((canon x).getD i 0 * (canon y).getD j 0 : Nat) : Int) := by simp
    have hab : (canon x).getD i 0 * (canon y).getD j 0 ≤ 999999999 * 999999999 := Nat.mul_le_mul (by omega) (by omega)
    generalize hv : (canon x).getD i 0 * (canon y).getD j 0 + o2.getD (i + j) 0 + c = v
    have e4 : (((canon x).getD i 0 : Nat) : Int) * (((canon y).getD j 0 : Nat) : Int) + ((o2.getD (i + j) 0 : Nat) : Int) + (c : Int) = (v : Int) := by rw [e3, ← hv]; omega
    have e5 : (1000000000 : Int) = ((B : Nat) : Int) := rfl
    have hvB : v < 1000000000 * 1000000000 := by omega
    have hdm := Nat.div_add_mod v B
    have hmod : v % B < B := Nat.mod_lt _ (by decide)
    have hdiv : v / B < B := Nat.div_lt_of_lt_mul hvB
    rw [e4, e5, VL, Vo]
    generalize v / B = c' at hdm hdiv ⊢
    generalize v % B = d at hdm hmod ⊢
    rw [e3]
    generalize hab2 : (canon x).getD i 0 * (canon y).getD j 0 = ab at hab hv ⊢
    refine ⟨fun hj => ?_, fun hj => ?_⟩
    ·have hj : j < (canon y).length := by simp at hj; omega
     have hp : i + j < o2.length := by omega
     refine ⟨by omega, fun _ => ⟨by omega, fun _ => ⟨by omega, fun _ => ⟨by omega, fun _ => ⟨by omega, fun _ => ⟨by omega, fun _ => ⟨by omega, fun _ => ⟨by omega, fun _ => ⟨by omega, fun _ => ⟨by omega, fun _ => ⟨by omega, fun _ => ⟨by omega, fun _ => ⟨by omega, fun _ => ⟨by omega, fun _ => ⟨by omega, fun _ => ?_⟩⟩⟩⟩⟩⟩⟩⟩⟩⟩⟩⟩⟩⟩⟩
     rw [if_pos trivial]
     have hs := xG o2 (i + j) d hp
     refine ⟨⟨o2.set (i + j) d, c', j + 1, by simpa using hlen2, by omega, yB hd2 _ hmod, hdiv, fun p hp2 => ?_, ?_⟩, by show _ - (j + 1) < _ - j; omega, by simp [S76b, magS, natS, za], heap_set rfl hp rfl, by kernel_rfl, Nat.zero_le _⟩
     ·have := hz2 p hp2
      simp only [List.getD] at this ⊢
      rw [List.getElem?_set_ne (by omega)]; exact this
     ·rw [Nat.pow_add] at hs
      rw [Nat.pow_succ, zn]
      exact Wa hs he2 hdm (by rw [hab2]; omega)
    ·have hj : j = (canon y).length := by simp at hj; omega
     subst hj
     have h0 := hz2 (i + (canon y).length) (Nat.le_refl _)
     have hp : i + (canon y).length < o2.length := by omega
     have hs := xG o2 (i + (canon y).length) c hp
     refine ⟨by omega, fun _ => ⟨by omega, fun _ => ⟨by omega, fun _ => ⟨by omega, fun _ => ⟨by omega, fun _ => ⟨by omega, fun _ => ?_⟩⟩⟩⟩⟩⟩
     rw [if_neg (by decide), if_pos trivial]
     refine ⟨⟨o2.set (i + (canon y).length) c, i + 1, by simpa using hlen2, by omega, yB hd2 _ hcB, ?_⟩, by show _ - (i + 1) < _ - i; omega, by simp [S76, magS, natS, za], heap_set (by omega) hp rfl, by kernel_rfl, Nat.zero_le _⟩
     rw [h0, Nat.pow_add] at hs
     rw [List.take_length, zi] at he2
     rw [zn, Nat.add_mul, ← he]
     simp only [Nat.mul_zero, Nat.add_zero] at hs
     rw [hs, he2]
  ·have hge : i = (canon x).length := by simp at hge; omega
   subst hge
   rw [List.take_length, zi] at he
   refine ⟨o, ⟨rfl, by omega, by omega, za _ _ _, by simpa using hd⟩, ⟨_, rfl⟩, ?_⟩
   intro X hX
   have hX : X = x * y := by simpa [he] using hX
   subst hX
   refine ⟨[0], rfl, by simp, by simp, fun _ => ⟨?_, ?_⟩, _, _, qb ?_, ?_, rfl, hq⟩
   ·simp [resV, new2, new1, new0, z0]
   ·intro k hk
    simp only [List.mem_singleton] at hk
    subst hk
    intro j o' _ _
    rfl
   ·simp [resV, exp2, exp1, exp0, z0, eqA2, eqA]
   ·have hpad := Wh hd
    rw [he, hlen] at hpad
    rw [← hpad]
    simp [expH, expB, hlen, za]
end Go.Proofs.Try
end

/- The integers' magnitudes: long division. -/
section
set_option maxRecDepth 100000
open Go Go.Sx Go.Proofs Go.Nov
namespace Go.Proofs.Try
attribute [local simp] eqKV eqA eqA0 eqH eqB eqL eqL0
noncomputable def K71 : List Go.Sx.Item := [.code (Try.f71.body.getD .skip)]
noncomputable def G2 : Nat → Option Ctr := fun f => if f = 85 then some (x5) else if f = 89 then some (KM) else if f = 82 then some (yn) else if f = 67 then some (Vf) else if f = 90 then some (Yr) else if f = 86 then some (Qz) else none
theorem JR : ∀ g c, G2 g = some c → ze Try.prog g c := okIf kV (okIf KW (okIf Ql (okIf Jp (okIf X7 (okIf ub (zz))))))
theorem je {k : IntKind} {u : List Nat} {off n X : Nat} (hd : dig ((u.drop off).take n)) (hX : val ((u.drop off).take n) = X) : eqG (canon X).length 1 (zh (natG k u) off) (natG k (canon X)) := by
 have h := zD hd
 rw [hX] at h
 have hl := zO ((u.drop off).take n)
 intro j o hj ho
 simp only [zh, natG, AV.int.injEq, true_and]
 rw [← h] at hj ⊢
 simp only [qg, List.length_take] at hj ⊢
 have hjn : j < n := by simp at hj hl; omega
 have e : (List.take (tlen ((u.drop off).take n)) ((u.drop off).take n)).getD j 0 = ((u.drop off).take n).getD j 0 := by
  simp only [List.getD, List.getElem?_take]
  rw [if_pos (by omega)]
 rw [e, k8 _ _ _ _ hjn]
theorem kz (k : IntKind) (n : Nat) : eqG 1 1 (zc 1 [.int k (n : Int)]) (natG k [n]) := by
 intro j o hj ho
 have : j = 0 := by omega
 have : o = 0 := by omega
 subst_vars; rfl
theorem KJ {k : IntKind} {n : Nat} {g : Nat → Nat → AV} {u : List Nat} {off m : Nat} (h : eqG m 1 g (natG k u)) (hm : off + n ≤ m) : eqG n 1 (zh g off) (zh (natG k u) off) := by
 intro j o hj ho
 exact h (off + j) o (by omega) ho
theorem xI {n sz : Nat} {f g h : Nat → Nat → AV} (h1 : eqG n sz f g) (h2 : eqG n sz g h) : eqG n sz f h := fun j o hj ho => (h1 j o hj ho).trans (h2 j o hj ho)
theorem jR {d : Nat} (hd : d < B) : eqG (canon d).length 1 (zh (zc 1 [.int .u32 (d : Int)]) 0) (natG .u32 (canon d)) := by
 have h1 : dig (([d].drop 0).take 1) := by simpa [dig] using hd
 have h2 : val (([d].drop 0).take 1) = d := by simp [val]
 have h3 := je (k := .u32) h1 h2
 refine xI (KJ (kz .u32 d) ?_) h3
 have := zq (x := d) (n := 1) (by simpa using hd)
 omega
theorem xo {N p : Nat} (hN : (canon p).length ≤ N) : eqG (canon p).length 1 (zh (natG .u32 (padN N p)) 0) (natG .u32 (canon p)) := by
 intro j o hj ho
 simp only [zh, natG, Nat.zero_add, padN, AV.int.injEq, true_and]
 congr 1
 simp only [List.getD]
 rw [List.getElem?_append_left hj]
theorem Xh (N p i : Nat) : (padN N p).getD i 0 = (canon p).getD i 0 := by
 simp only [padN, List.getD]
 by_cases h : i < (canon p).length
 ·rw [List.getElem?_append_left h]
 ·rw [List.getElem?_append_right (by omega), List.getElem?_eq_none (show (canon p).length ≤ i by omega)]
  cases hh : (List.replicate (N - (canon p).length) 0)[i - (canon p).length]? with
  | none => rfl
  | some z => have := List.mem_of_getElem? hh; simp at this; simp [this.2]
theorem Qk {N p : Nat} (h : (canon p).length ≤ N) : (padN N p).length = N := by simp [padN]; omega
theorem YH (N p : Nat) : dig (padN N p) := qD.2 ⟨zg _, q6 _⟩
theorem kG (x y : Nat) : (canon (x * y)).length ≤ (canon x).length + (canon y).length := by
 have h1 := zT (zg x)
 have h2 := zT (zg y)
 rw [zi] at h1 h2
 exact zq (by rw [Nat.pow_add]; exact Nat.mul_lt_mul'' h1 h2)
theorem Zh {d : Nat} (h0 : 0 < d) (hB : d < B) : (canon d).length = 1 := by
 have h1 := zq (x := d) (n := 1) (by simpa using hB)
 have h2 := jc (x := d) (n := 0) (by simp; omega)
 omega
def xd : Ctr := ctr2 false (fun x y => (canon x).length < 100000 ∧ (canon y).length < 100000 ∧ 0 < y) (fun x y (r : Nat × Nat) => r = (x / y, x % y)) (fun _ _ r => (.tup [magS r.1, magS r.2], []))
def SG (x y s k : Nat) : KV := [(0, magS x), (1, magS y), (4, .nils), (8, .int .u32 (s : Int)), (9, .int .i64 (((canon y).length : Nat) : Int)), (10, .osl 1 1 0 k), (11, .undef), (12, .undef), (13, .undef), (15, .undef), (151, .undef), (152, .undef)]
structure IG (x U : Nat) where
 k : Nat
 o : List Nat
 ko : k ≤ o.length
 le : o.length ≤ (canon x).length + 1
 dg : dig (o.take k)
 eq : val (o.take k) = U
def SD (y s V ul ql j : Nat) : KV := [(0, .undef), (1, .undef), (4, .osl 4 1 0 ql), (8, .int .u32 (s : Int)), (9, .int .i64 (((canon y).length : Nat) : Int)), (10, .osl 1 1 0 ul), (11, .osl 3 1 0 (canon V).length), (12, .int .i64 ((j : Int) - 1)), (13, .undef), (15, .undef), (151, .undef), (152, .undef)]
def HD (y V : Nat) (u q : List Nat) : Heap := [.dead, .arr u.length 1 (natG .u32 u), .dead, .arr ((canon y).length + 1) 1 (natG .u32 (padN ((canon y).length + 1) V)), .arr q.length 1 (natG .u32 q)]
structure ID (x y V U : Nat) where
 u : List Nat
 q : List Nat
 j : Nat
 ul : u.length = (canon x).length + 1
 ql : q.length + (canon y).length = (canon x).length + 1
 jq : j ≤ q.length
 du : dig u
 dq : dig q
 eq : U = V * B ^ j * val (q.drop j) + val u
 lt : val u < V * B ^ j
def SC (y s V ul ql j d L i : Nat) : KV := [(0, .undef), (1, .undef), (4, .osl 4 1 0 ql), (8, .int .u32 (s : Int)), (9, .int .i64 (((canon y).length : Nat) : Int)), (10, .osl 1 1 0 ul), (11, .osl 3 1 0 (canon V).length), (12, .int .i64 (j : Int)), (13, .int .u64 (d : Int)), (15, magS L), (151, .int .i64 (((canon y).length + 1 : Nat) : Int)), (152, .int .i64 (i : Int))]
theorem Jj {x y s V U m i : Nat} {u q : List Nat} {O : Nat → Prop} {w0 : World} {Q : AV × Heap → Prop} {Hs0 : Nat → KV → Heap → Prop} (hm : (canon y).length = m + 2) (hx : (canon x).length < 100000) (hs0 : 0 < s) (hsB : s < B) (hV1 : V < B ^ (m + 2)) (hV2 : B ^ (m + 2) ≤ 2 * V) (hVl : (canon V).length = m + 2) (hV0 : 0 < V)
  (hul : u.length = (canon x).length + 1) (hql : q.length + (canon y).length = (canon x).length + 1) (hjq : i + 1 ≤ q.length) (hdu : dig u) (hdq : dig q) (heq : U = V * B ^ (i + 1) * val (q.drop (i + 1)) + val u) (hlt : val u < V * B ^ (i + 1)) {W : Nat} (hW : val ((u.drop i).take (m + 2 + 1)) = W) (hWB : W / V < B) (kv : KV) (h : Heap) (hle : LeK 0 Try.f71.ntmps kv h (SC y s V u.length q.length i (W / V) (W % V) 0) (HD y V u q)) :
  zb Try.prog Try.f71 O 0 w0 [] (fun d kv h => if d = 0 then ∃ x' : ID x y V U, x'.j < i + 1 ∧ LeK 0 Try.f71.ntmps kv h (SD y s V x'.u.length x'.q.length x'.j) (HD y V x'.u x'.q) else Hs0 d kv h) (RetR xd 0 Q)
   (.code (.loop (lps (inside (inside K71 0) 0) 0).1) :: (lps (inside (inside K71 0) 0) 0).2) (mk Try.f71.ntmps kv h) := by
 have hB : B = 1000000000 := rfl
 have c2 : 0 + (i : Int).toNat = i := by omega
 have hLV := Nat.mod_lt W hV0
 have hLl : (canon (W % V)).length ≤ m + 2 := zq (by omega)
 refine zb.loop (ι := {k : Nat // k ≤ m + 2 + 1}) (fun k => SC y s V u.length q.length i (W / V) (W % V) k.1) (fun k => HD y V (mixL u (canon (W % V)) i k.1) q) (fun k => m + 2 + 1 - k.1) ⟨0, Nat.zero_le _⟩ 1 ?_ ?_ (by kernel_rfl)
 ·simpa only [Kh] using hle
 ·rintro ⟨k, hk⟩
  obtain ⟨L, hL⟩ : ∃ L, W % V = L := ⟨_, rfl⟩
  obtain ⟨d, hd⟩ : ∃ d, W / V = d := ⟨_, rfl⟩
  simp only [hL, hd]
  obtain ⟨u', hu'⟩ : ∃ u', mixL u (canon L) i k = u' := ⟨_, rfl⟩
  have hu'l : u'.length = u.length := by rw [← hu', Jy]
  simp only [hu', ← hu'l]
  rw [hL] at hLl hLV
  refine zb.run hmix JR [0, 1, 4, 8, 9, 10, 11, 12, 13, 15, 151, 152] 400 (T := .ite (decide ((↑k : Int) < (↑(List.length (canon y) + 1) : Int))) (.side (inR .i64 ((↑i : Int) + k)) (.side ((0 : Int) ≤ i + (↑k : Int) ∧ (↑i : Int) + k < (↑(List.length u') : Int)) (.ite (decide ((↑k : Int) < (↑(List.length (canon L)) : Int))) (.side (inR .i64 ((↑i : Int) + k)) (.side ((0 : Int) ≤ k ∧ (↑k : Int) < (↑(List.length (canon L)) : Int)) (.side ((0 : Int) ≤ i + (↑k : Int) ∧ (↑i : Int) + k < (↑(List.length u') : Int)) (.side (inR .i64 ((↑k : Int) + (1 : Int))) (.leaf (.back 1 [(0, .undef), (1, .undef), (4, .osl 4 1 0 q.length), (8, .int .u32 s), (9, .int .i64 (↑(canon y).length : Int)), (10, .osl 1 1 0 (List.length u')), (11, .osl 3 1 0 (List.length (canon V))), (12, .int .i64 i), (13, .int .u64 d), (15, .sl (List.length (canon L)) 1 (natG .u32 (canon L))), (151, .int .i64 (↑(List.length (canon y) + 1) : Int)), (152, .int .i64 ((↑k : Int) + (1 : Int)))] [.dead, .arr (List.length u') 1 (updG (updG (natG .u32 u') (0 + Int.toNat ((↑i : Int) + k)) 0 [.int .u32 0]) (0 + Int.toNat ((↑i : Int) + k)) 0 [.int .u32 (↑(List.getD (canon L) (Int.toNat (↑k : Int)) 0) : Int)]), .dead, .arr (List.length (canon y) + 1) 1 (natG .u32 (padN (List.length (canon y) + 1) V)), .arr q.length 1 (natG .u32 q)])))))) (.side (inR .i64 ((↑k : Int) + (1 : Int))) (.leaf (.back 1 [(0, .undef), (1, .undef), (4, .osl 4 1 0 q.length), (8, .int .u32 s), (9, .int .i64 (↑(canon y).length : Int)), (10, .osl 1 1 0 (List.length u')), (11, .osl 3 1 0 (List.length (canon V))), (12, .int .i64 i), (13, .int .u64 d), (15, .sl (List.length (canon L)) 1 (natG .u32 (canon L))), (151, .int .i64 (↑(List.length (canon y) + 1) : Int)), (152, .int .i64 ((↑k : Int) + (1 : Int)))] [.dead, .arr (List.length u') 1 (updG (natG .u32 u') (0 + Int.toNat ((↑i : Int) + k)) 0 [.int .u32 0]), .dead, .arr (List.length (canon y) + 1) 1 (natG .u32 (padN (List.length (canon y) + 1) V)), .arr q.length 1 (natG .u32 q)])))))) (.side (inR .u32 (↑d : Int)) (.side ((0 : Int) ≤ i ∧ (↑i : Int) < q.length) (.side (inR .i64 ((↑i : Int) - (1 : Int))) (.leaf (.back 0 [(0, .undef), (1, .undef), (4, .osl 4 1 0 q.length), (8, .int .u32 s), (9, .int .i64 (↑(canon y).length : Int)), (10, .osl 1 1 0 (List.length u')), (11, .osl 3 1 0 (List.length (canon V))), (12, .int .i64 ((↑i : Int) - (1 : Int))), (13, .int .u64 d), (15, .sl (List.length (canon L)) 1 (natG .u32 (canon L))), (151, .int .i64 (↑(List.length (canon y) + 1) : Int)), (152, .int .i64 k)] [.dead, .arr (List.length u') 1 (natG .u32 u'), .dead, .arr (List.length (canon y) + 1) 1 (natG .u32 (padN (List.length (canon y) + 1) V)), .arr q.length 1 (updG (natG .u32 q) (0 + Int.toNat (↑i : Int)) 0 [.int .u32 d])])))))) (by kernel_rfl) ?_
  have ek : 0 + ((i : Int) + (k : Int)).toNat = i + k := by omega
  have ek1 : ((k : Int) + 1) = ((k + 1 : Nat) : Int) := by omega
  simp only [Tree.holds, zd, inR, lo, hi, ek, ek1, c2, Int.toNat_natCast]
  refine ⟨fun hlt => ?_, fun hge => ?_⟩
  ·have hlt : k < m + 2 + 1 := by simp at hlt; omega
   have hik : i + k < u'.length := by omega
   refine ⟨by omega, fun _ => ⟨by omega, fun _ => ⟨fun hin => ?_, fun hout => ?_⟩⟩⟩
   ·have hin : k < (canon L).length := by simp at hin; omega
    iterate 4 refine ⟨by omega, fun _ => ?_⟩
    rw [if_pos trivial]
    refine ⟨⟨k + 1, by omega⟩, by show m + 2 + 1 - (k + 1) < m + 2 + 1 - k; omega, by simp [SC, magS, natS, za], ?_, by kernel_rfl, Nat.zero_le _⟩
    have hs2 := J9 u (canon L) i k 0
    rw [hu'] at hs2
    simp only [← hs2]
    refine ⟨trivial, ⟨by simp, rfl, ?_⟩, trivial, by simp [za], by simp [za], trivial⟩
    have h1 := wJ (k := .u32) (l := u') (v := 0) (i := i + k) (by omega) hik
    have h2 := wJ (k := .u32) (l := u'.set (i + k) 0) (v := ((canon L).getD k 0 : Nat)) (i := i + k) (by omega) (by simpa using hik)
    simp only [List.length_set, Int.toNat_natCast] at h2
    refine xI ?_ h2
    intro p o hp ho
    have := h1 p o hp ho
    simp only [updG] at this ⊢
    split
    ·rfl
    ·exact this
   ·have hout : (canon L).length ≤ k := by simp at hout; omega
    refine ⟨by omega, fun _ => ?_⟩
    rw [if_pos trivial]
    refine ⟨⟨k + 1, by omega⟩, by show m + 2 + 1 - (k + 1) < m + 2 + 1 - k; omega, by simp [SC, magS, natS, za], ?_, by kernel_rfl, Nat.zero_le _⟩
    have hs2 := J9 u (canon L) i k 0
    rw [hu'] at hs2
    have hz : (canon L).getD k 0 = 0 := by simp [List.getD, List.getElem?_eq_none hout]
    rw [hz, List.set_set] at hs2
    simp only [← hs2]
    refine ⟨trivial, ⟨by simp, rfl, ?_⟩, trivial, by simp [za], by simp [za], trivial⟩
    exact wJ (k := .u32) (l := u') (v := 0) (i := i + k) (by omega) hik
  ·have hk : k = m + 2 + 1 := by simp at hge; omega
   subst hk
   have hdB : d < B := hd ▸ hWB
   iterate 3 refine ⟨by omega, fun _ => ?_⟩
   rw [if_neg (by decide), if_pos trivial]
   have hval := XF (u := u) (L := L) (j := i) (k := m + 2 + 1) (by omega) (by omega)
   rw [hu'] at hval
   have hst := step_eq (u := u) (u' := u') (q := q) (j := i) (k := m + 2 + 1) (V := V) (U0 := U) hdu (by omega) (by simpa using hV1) (by omega) hV0 hlt (by omega) heq (by rw [hW, hL]; exact hval)
   rw [hW, hd] at hst
   refine ⟨⟨u', q.set i d, i, by omega, by simpa using hql, by simp; omega, ?_, yB hdq _ hdB, hst.2, hst.1⟩, Nat.lt_succ_self _, by simp [SD, za], ?_, by kernel_rfl, Nat.zero_le _⟩
   ·rw [← hu']; exact Y7 hdu (zg _) _ _
   ·refine ⟨trivial, ⟨rfl, rfl, za _ _ _⟩, trivial, ⟨rfl, rfl, za _ _ _⟩, ⟨by simp, rfl, ?_⟩, trivial⟩
    have := wJ (k := .u32) (l := q) (v := (d : Int)) (i := i) (by omega) (by omega)
    simpa using this
set_option maxHeartbeats 2000000 in
theorem Q3 {x y s V U m i : Nat} {u q : List Nat} {O : Nat → Prop} {w0 : World} {Q : AV × Heap → Prop} {Hs0 : Nat → KV → Heap → Prop} (hm : (canon y).length = m + 2) (hx : (canon x).length < 100000) (hs0 : 0 < s) (hsB : s < B) (hV1 : V < B ^ (m + 2)) (hV2 : B ^ (m + 2) ≤ 2 * V) (hVl : (canon V).length = m + 2) (hV0 : 0 < V)
  (hul : u.length = (canon x).length + 1) (hql : q.length + (canon y).length = (canon x).length + 1) (hjq : i + 1 ≤ q.length) (hdu : dig u) (hdq : dig q) (heq : U = V * B ^ (i + 1) * val (q.drop (i + 1)) + val u) (hlt : val u < V * B ^ (i + 1)) :
  zb Try.prog Try.f71 O 0 w0 [] (fun d kv h => if d = 0 then ∃ x' : ID x y V U, x'.j < i + 1 ∧ LeK 0 Try.f71.ntmps kv h (SD y s V x'.u.length x'.q.length x'.j) (HD y V x'.u x'.q) else Hs0 d kv h) (RetR xd 0 Q) (inside (inside K71 0) 0) (mk Try.f71.ntmps (SD y s V u.length q.length (i + 1)) (HD y V u q)) := by
 have hB : B = 1000000000 := rfl
 refine zb.run hmix JR [0, 1, 4, 8, 9, 10, 11, 12, 13, 15, 151, 152] 400 (T := .ite (decide ((0 : Int) ≤ (↑(i + 1) : Int) - (1 : Int))) (.side (inR .i64 ((↑(i + 1) : Int) - (1 : Int) + (↑(canon y).length : Int))) (.side ((0 : Int) ≤ (↑(i + 1) : Int) - (1 : Int) + (↑(canon y).length : Int) ∧ (↑(i + 1) : Int) - (1 : Int) + (↑(canon y).length : Int) < u.length) (.side (inR .u64 (↑(List.getD u (0 + Int.toNat ((↑(i + 1) : Int) - (1 : Int) + (↑(canon y).length : Int))) 0) : Int)) (.side (inR .i64 ((↑(i + 1) : Int) - (1 : Int) + (↑(canon y).length : Int))) (.side (inR .i64 ((↑(i + 1) : Int) - (1 : Int) + (↑(canon y).length : Int) - (1 : Int))) (.side ((0 : Int) ≤ (↑(i + 1) : Int) - (1 : Int) + (↑(canon y).length : Int) - (1 : Int) ∧ (↑(i + 1) : Int) - (1 : Int) + (↑(canon y).length : Int) - (1 : Int) < u.length) (.side (inR .u64 (↑(List.getD u (0 + Int.toNat ((↑(i + 1) : Int) - (1 : Int) + (↑(canon y).length : Int) - (1 : Int))) 0) : Int)) (.side (inR .i64 ((↑(i + 1) : Int) - (1 : Int) + (↑(canon y).length : Int))) (.side (inR .i64 ((↑(i + 1) : Int) - (1 : Int) + (↑(canon y).length : Int) - (2 : Int))) (.side ((0 : Int) ≤ (↑(i + 1) : Int) - (1 : Int) + (↑(canon y).length : Int) - (2 : Int) ∧ (↑(i + 1) : Int) - (1 : Int) + (↑(canon y).length : Int) - (2 : Int) < u.length) (.side (inR .u64 (↑(List.getD u (0 + Int.toNat ((↑(i + 1) : Int) - (1 : Int) + (↑(canon y).length : Int) - (2 : Int))) 0) : Int)) (.side (inR .i64 ((↑(canon y).length : Int) - (1 : Int))) (.side ((0 : Int) ≤ (↑(canon y).length : Int) - (1 : Int) ∧ (↑(canon y).length : Int) - (1 : Int) < (↑(List.length (canon V)) : Int)) (.side (inR .u64 (↑(List.getD (padN (List.length (canon y) + 1) V) (0 + Int.toNat ((↑(canon y).length : Int) - (1 : Int))) 0) : Int)) (.side (inR .i64 ((↑(canon y).length : Int) - (2 : Int))) (.side ((0 : Int) ≤ (↑(canon y).length : Int) - (2 : Int) ∧ (↑(canon y).length : Int) - (2 : Int) < (↑(List.length (canon V)) : Int)) (.side (inR .u64 (↑(List.getD (padN (List.length (canon y) + 1) V) (0 + Int.toNat ((↑(canon y).length : Int) - (2 : Int))) 0) : Int)) (.ex (fun (x : D5) => eqL [AV.int .u64 (↑(List.getD u (0 + Int.toNat ((↑(i + 1) : Int) - (1 : Int) + (↑(canon y).length : Int))) 0) : Int), AV.int .u64 (↑(List.getD u (0 + Int.toNat ((↑(i + 1) : Int) - (1 : Int) + (↑(canon y).length : Int) - (1 : Int))) 0) : Int), AV.int .u64 (↑(List.getD u (0 + Int.toNat ((↑(i + 1) : Int) - (1 : Int) + (↑(canon y).length : Int) - (2 : Int))) 0) : Int), AV.int .u64 (↑(List.getD (padN (List.length (canon y) + 1) V) (0 + Int.toNat ((↑(canon y).length : Int) - (1 : Int))) 0) : Int), AV.int .u64 (↑(List.getD (padN (List.length (canon y) + 1) V) (0 + Int.toNat ((↑(canon y).length : Int) - (2 : Int))) 0) : Int)] [AV.int .u64 (↑(D5.t x) : Int), AV.int .u64 (↑(D5.u x) : Int), AV.int .u64 (↑(D5.v x) : Int), AV.int .u64 (↑(D5.y x) : Int), AV.int .u64 (↑(D5.z x) : Int)] ∧ D5.t x ≤ D5.y x ∧ D5.u x < 1000000000 ∧ D5.v x < 1000000000 ∧ D5.y x < 1000000000 ∧ D5.z x < 1000000000 ∧ 1000000000 ≤ 2 * D5.y x) fun n => .all (fun (n_1 : Nat) => n_1 = qA (D5.v n) (D5.y n) (D5.z n) 2 ((D5.t n * 1000000000 + D5.u n) / D5.y n) ((D5.t n * 1000000000 + D5.u n) % D5.y n)) fun n => .side (inR .u32 (↑n : Int)) (.ex (fun (u : List Nat) => u.length = 1 ∧ 1 ≤ 1 ∧ 1 < 4611686018427387904 ∧ eqG 1 1 (zc 1 [AV.int .u32 n]) (natG .u32 u) ∧ dig (List.take 1 (List.drop 0 u))) fun n_1 => .all (fun (x : Nat) => x = val (List.take 1 (List.drop 0 n_1))) fun n_2 => .ex (fun (x : Nat × Nat) => eqL [AV.sl (List.length (canon V)) 1 (zh (natG .u32 (padN (List.length (canon y) + 1) V)) 0), AV.sl (canon n_2).length 1 (zh (zc 1 [AV.int .u32 n]) 0)] [AV.sl (canon x.1).length 1 (natG .u32 (canon x.1)), AV.sl (canon x.2).length 1 (natG .u32 (canon x.2))] ∧ fits x.1 ∧ fits x.2) fun n_3 => .all (fun (p : Nat) => p = n_3.1 * n_3.2) fun n_4 => .side (inR .i64 ((↑(i + 1) : Int) - (1 : Int) + (↑(canon y).length : Int))) (.side (inR .i64 ((↑(i + 1) : Int) - (1 : Int) + (↑(canon y).length : Int) + (1 : Int))) (.side ((0 : Int) ≤ (↑(i + 1) : Int) - (1 : Int) ∧ (↑(i + 1) : Int) - (1 : Int) ≤ (↑(i + 1) : Int) - (1 : Int) + (↑(canon y).length : Int) + (1 : Int) ∧ (↑(i + 1) : Int) - (1 : Int) + (↑(canon y).length : Int) + (1 : Int) ≤ u.length) (.ex (fun (u_1 : List Nat) => u_1.length = u.length ∧ 0 + Int.toNat ((↑(i + 1) : Int) - (1 : Int)) + (Int.toNat ((↑(i + 1) : Int) - (1 : Int) + (↑(canon y).length : Int) + (1 : Int)) - Int.toNat ((↑(i + 1) : Int) - (1 : Int))) ≤ u.length ∧ Int.toNat ((↑(i + 1) : Int) - (1 : Int) + (↑(canon y).length : Int) + (1 : Int)) - Int.toNat ((↑(i + 1) : Int) - (1 : Int)) < 4611686018427387904 ∧ eqG u.length 1 (natG .u32 u) (natG .u32 u_1) ∧ dig (List.take (Int.toNat ((↑(i + 1) : Int) - (1 : Int) + (↑(canon y).length : Int) + (1 : Int)) - Int.toNat ((↑(i + 1) : Int) - (1 : Int))) (List.drop (0 + Int.toNat ((↑(i + 1) : Int) - (1 : Int))) u_1))) fun n_5 => .all (fun (x : Nat) => x = val (List.take (Int.toNat ((↑(i + 1) : Int) - (1 : Int) + (↑(canon y).length : Int) + (1 : Int)) - Int.toNat ((↑(i + 1) : Int) - (1 : Int))) (List.drop (0 + Int.toNat ((↑(i + 1) : Int) - (1 : Int))) n_5))) fun n_6 => .ex (fun (x : Nat × Nat) => eqL [AV.sl (canon n_6).length 1 (zh (natG .u32 u) (0 + Int.toNat ((↑(i + 1) : Int) - (1 : Int)))), AV.sl (canon n_4).length 1 (zh (natG .u32 (padN (List.length (canon n_3.1) + List.length (canon n_3.2)) n_4)) 0)] [AV.sl (canon x.1).length 1 (natG .u32 (canon x.1)), AV.sl (canon x.2).length 1 (natG .u32 (canon x.2))] ∧ fits x.1 ∧ fits x.2) fun n_7 => .all (fun (r : Int) => r = cmp3 n_7.1 n_7.2) fun n_8 => .ite (decide (n_8 < 0)) (.side (inR .u64 ((↑n : Int) - (1 : Int))) (.side (inR .u32 ((↑n : Int) - (1 : Int))) (.ex (fun (u : List Nat) => u.length = 1 ∧ 1 ≤ 1 ∧ 1 < 4611686018427387904 ∧ eqG 1 1 (zc 1 [AV.int .u32 ((↑n : Int) - (1 : Int))]) (natG .u32 u) ∧ dig (List.take 1 (List.drop 0 u))) fun n_9 => .all (fun (x : Nat) => x = val (List.take 1 (List.drop 0 n_9))) fun n_10 => .ex (fun (x : Nat × Nat) => eqL [AV.sl (List.length (canon V)) 1 (zh (natG .u32 (padN (List.length (canon y) + 1) V)) 0), AV.sl (canon n_10).length 1 (zh (zc 1 [AV.int .u32 ((↑n : Int) - (1 : Int))]) 0)] [AV.sl (canon x.1).length 1 (natG .u32 (canon x.1)), AV.sl (canon x.2).length 1 (natG .u32 (canon x.2))] ∧ fits x.1 ∧ fits x.2) fun n_11 => .all (fun (p : Nat) => p = n_11.1 * n_11.2) fun n_12 => .side (inR .i64 ((↑(i + 1) : Int) - (1 : Int) + (↑(canon y).length : Int))) (.side (inR .i64 ((↑(i + 1) : Int) - (1 : Int) + (↑(canon y).length : Int) + (1 : Int))) (.side ((0 : Int) ≤ (↑(i + 1) : Int) - (1 : Int) ∧ (↑(i + 1) : Int) - (1 : Int) ≤ (↑(i + 1) : Int) - (1 : Int) + (↑(canon y).length : Int) + (1 : Int) ∧ (↑(i + 1) : Int) - (1 : Int) + (↑(canon y).length : Int) + (1 : Int) ≤ u.length) (.ex (fun (u_1 : List Nat) => u_1.length = u.length ∧ 0 + Int.toNat ((↑(i + 1) : Int) - (1 : Int)) + (Int.toNat ((↑(i + 1) : Int) - (1 : Int) + (↑(canon y).length : Int) + (1 : Int)) - Int.toNat ((↑(i + 1) : Int) - (1 : Int))) ≤ u.length ∧ Int.toNat ((↑(i + 1) : Int) - (1 : Int) + (↑(canon y).length : Int) + (1 : Int)) - Int.toNat ((↑(i + 1) : Int) - (1 : Int)) < 4611686018427387904 ∧ eqG u.length 1 (natG .u32 u) (natG .u32 u_1) ∧ dig (List.take (Int.toNat ((↑(i + 1) : Int) - (1 : Int) + (↑(canon y).length : Int) + (1 : Int)) - Int.toNat ((↑(i + 1) : Int) - (1 : Int))) (List.drop (0 + Int.toNat ((↑(i + 1) : Int) - (1 : Int))) u_1))) fun n_13 => .all (fun (x : Nat) => x = val (List.take (Int.toNat ((↑(i + 1) : Int) - (1 : Int) + (↑(canon y).length : Int) + (1 : Int)) - Int.toNat ((↑(i + 1) : Int) - (1 : Int))) (List.drop (0 + Int.toNat ((↑(i + 1) : Int) - (1 : Int))) n_13))) fun n_14 => .ex (fun (x : Nat × Nat) => eqL [AV.sl (canon n_14).length 1 (zh (natG .u32 u) (0 + Int.toNat ((↑(i + 1) : Int) - (1 : Int)))), AV.sl (canon n_12).length 1 (zh (natG .u32 (padN (List.length (canon n_11.1) + List.length (canon n_11.2)) n_12)) 0)] [AV.sl (canon x.1).length 1 (natG .u32 (canon x.1)), AV.sl (canon x.2).length 1 (natG .u32 (canon x.2))] ∧ fits x.1 ∧ x.2 ≤ x.1) fun n_15 => .all (fun (d : Nat) => d = n_15.1 - n_15.2) fun n_16 => .side (inR .i64 ((↑(canon y).length : Int) + (1 : Int))) (.leaf (.loop (Prod.fst (lps (inside (inside K71 0) 0) 0)) (Prod.snd (lps (inside (inside K71 0) 0) 0)) [(0, .undef), (1, .undef), (4, .osl 4 1 0 q.length), (8, .int .u32 s), (9, .int .i64 (↑(canon y).length : Int)), (10, .osl 1 1 0 u.length), (11, .osl 3 1 0 (List.length (canon V))), (12, .int .i64 ((↑(i + 1) : Int) - (1 : Int))), (13, .int .u64 ((↑n : Int) - (1 : Int))), (15, .sl (canon n_16).length 1 (natG .u32 (canon n_16))), (151, .int .i64 ((↑(canon y).length : Int) + (1 : Int))), (152, .int .i64 0)] [.dead, .arr u.length 1 (natG .u32 u), .dead, .arr (List.length (canon y) + 1) 1 (natG .u32 (padN (List.length (canon y) + 1) V)), .arr q.length 1 (natG .u32 q), .arr 1 1 (zc 1 [.int .u32 n]), .arr (List.length (canon n_3.1) + List.length (canon n_3.2)) 1 (natG .u32 (padN (List.length (canon n_3.1) + List.length (canon n_3.2)) n_4)), .arr 1 1 (zc 1 [.int .u32 ((↑n : Int) - (1 : Int))]), .arr (List.length (canon n_11.1) + List.length (canon n_11.2)) 1 (natG .u32 (padN (List.length (canon n_11.1) + List.length (canon n_11.2)) n_12))])))))))) (.side (inR .i64 ((↑(i + 1) : Int) - (1 : Int) + (↑(canon y).length : Int))) (.side (inR .i64 ((↑(i + 1) : Int) - (1 : Int) + (↑(canon y).length : Int) + (1 : Int))) (.side ((0 : Int) ≤ (↑(i + 1) : Int) - (1 : Int) ∧ (↑(i + 1) : Int) - (1 : Int) ≤ (↑(i + 1) : Int) - (1 : Int) + (↑(canon y).length : Int) + (1 : Int) ∧ (↑(i + 1) : Int) - (1 : Int) + (↑(canon y).length : Int) + (1 : Int) ≤ u.length) (.ex (fun (u_1 : List Nat) => u_1.length = u.length ∧ 0 + Int.toNat ((↑(i + 1) : Int) - (1 : Int)) + (Int.toNat ((↑(i + 1) : Int) - (1 : Int) + (↑(canon y).length : Int) + (1 : Int)) - Int.toNat ((↑(i + 1) : Int) - (1 : Int))) ≤ u.length ∧ Int.toNat ((↑(i + 1) : Int) - (1 : Int) + (↑(canon y).length : Int) + (1 : Int)) - Int.toNat ((↑(i + 1) : Int) - (1 : Int)) < 4611686018427387904 ∧ eqG u.length 1 (natG .u32 u) (natG .u32 u_1) ∧ dig (List.take (Int.toNat ((↑(i + 1) : Int) - (1 : Int) + (↑(canon y).length : Int) + (1 : Int)) - Int.toNat ((↑(i + 1) : Int) - (1 : Int))) (List.drop (0 + Int.toNat ((↑(i + 1) : Int) - (1 : Int))) u_1))) fun n_9 => .all (fun (x : Nat) => x = val (List.take (Int.toNat ((↑(i + 1) : Int) - (1 : Int) + (↑(canon y).length : Int) + (1 : Int)) - Int.toNat ((↑(i + 1) : Int) - (1 : Int))) (List.drop (0 + Int.toNat ((↑(i + 1) : Int) - (1 : Int))) n_9))) fun n_10 => .ex (fun (x : Nat × Nat) => eqL [AV.sl (canon n_10).length 1 (zh (natG .u32 u) (0 + Int.toNat ((↑(i + 1) : Int) - (1 : Int)))), AV.sl (canon n_4).length 1 (zh (natG .u32 (padN (List.length (canon n_3.1) + List.length (canon n_3.2)) n_4)) 0)] [AV.sl (canon x.1).length 1 (natG .u32 (canon x.1)), AV.sl (canon x.2).length 1 (natG .u32 (canon x.2))] ∧ fits x.1 ∧ x.2 ≤ x.1) fun n_11 => .all (fun (d : Nat) => d = n_11.1 - n_11.2) fun n_12 => .side (inR .i64 ((↑(canon y).length : Int) + (1 : Int))) (.leaf (.loop (Prod.fst (lps (inside (inside K71 0) 0) 0)) (Prod.snd (lps (inside (inside K71 0) 0) 0)) [(0, .undef), (1, .undef), (4, .osl 4 1 0 q.length), (8, .int .u32 s), (9, .int .i64 (↑(canon y).length : Int)), (10, .osl 1 1 0 u.length), (11, .osl 3 1 0 (List.length (canon V))), (12, .int .i64 ((↑(i + 1) : Int) - (1 : Int))), (13, .int .u64 n), (15, .sl (canon n_12).length 1 (natG .u32 (canon n_12))), (151, .int .i64 ((↑(canon y).length : Int) + (1 : Int))), (152, .int .i64 0)] [.dead, .arr u.length 1 (natG .u32 u), .dead, .arr (List.length (canon y) + 1) 1 (natG .u32 (padN (List.length (canon y) + 1) V)), .arr q.length 1 (natG .u32 q), .arr 1 1 (zc 1 [.int .u32 n]), .arr (List.length (canon n_3.1) + List.length (canon n_3.2)) 1 (natG .u32 (padN (List.length (canon n_3.1) + List.length (canon n_3.2)) n_4))])))))))))))))))))))))))))))) (.ex (fun (u_1 : List Nat) => u_1.length = u.length ∧ 0 + u.length ≤ u.length ∧ u.length < 4611686018427387904 ∧ eqG u.length 1 (natG .u32 u) (natG .u32 u_1) ∧ dig (List.take u.length (List.drop 0 u_1))) fun n => .all (fun (x : Nat) => x = val (List.take u.length (List.drop 0 n))) fun n => .ex (fun (x : Nat × Nat) => eqL [AV.sl (canon n).length 1 (zh (natG .u32 u) 0), AV.int .u32 s] [AV.sl (canon x.1).length 1 (natG .u32 (canon x.1)), AV.int .u32 x.2] ∧ fits x.1 ∧ 0 < x.2 ∧ x.2 < 1000000000) fun n => .all (fun (r : Nat × Nat) => r = (n.1 / n.2, n.1 % n.2)) fun n => .ex (fun (u : List Nat) => u.length = q.length ∧ 0 + q.length ≤ q.length ∧ q.length < 4611686018427387904 ∧ eqG q.length 1 (natG .u32 q) (natG .u32 u) ∧ dig (List.take q.length (List.drop 0 u))) fun n_1 => .all (fun (x : Nat) => x = val (List.take q.length (List.drop 0 n_1))) fun n_2 => .leaf (.ret [.osl 4 1 0 (canon n_2).length, .sl (canon n.1).length 1 (natG .u32 (canon n.1))] [.dead, .arr u.length 1 (natG .u32 u), .dead, .arr (List.length (canon y) + 1) 1 (natG .u32 (padN (List.length (canon y) + 1) V)), .arr q.length 1 (natG .u32 q)]))) (by kernel_rfl) ?_
 simp only [Tree.holds, zd, inR, lo, hi]
 refine ⟨fun hj => ?_, fun hj => by simp at hj⟩
 have ej : (((i + 1 : Nat) : Int) - 1) = (i : Int) := by omega
 have a1 : 0 + ((i : Int) + ((canon y).length : Int)).toNat = i + (m + 2) := by omega
 have a2 : 0 + ((i : Int) + ((canon y).length : Int) - 1).toNat = i + (m + 1) := by omega
 have a3 : 0 + ((i : Int) + ((canon y).length : Int) - 2).toNat = i + m := by omega
 have b1 : 0 + (((canon y).length : Int) - 1).toNat = m + 1 := by omega
 have b2 : 0 + (((canon y).length : Int) - 2).toNat = m := by omega
 have c1 : ((i : Int) + ((canon y).length : Int) + 1).toNat - (i : Int).toNat = m + 2 + 1 := by omega
 have c2 : 0 + (i : Int).toNat = i := by omega
 simp only [ej, a1, a2, a3, b1, b2, c1, c2, Xh]
 have hu1 := zA hdu (i + (m + 2))
 have hu2 := zA hdu (i + (m + 1))
 have hu3 := zA hdu (i + m)
 have hv1 := zA (zg V) (m + 1)
 have hv2 := zA (zg V) m
 iterate 17 refine ⟨by omega, fun _ => ?_⟩
 obtain ⟨W, hW⟩ : ∃ W, val ((u.drop i).take (m + 2 + 1)) = W := ⟨_, rfl⟩
 have hdw : dig ((u.drop i).take (m + 2 + 1)) := qY (uH hdu _) _
 have hWl : (canon W).length ≤ m + 2 + 1 := by
  refine zq ?_
  have := zT hdw
  rw [hW, List.length_take] at this
  exact Nat.lt_of_lt_of_le this (Nat.pow_le_pow_right (by decide) (Nat.min_le_left _ _))
 obtain ⟨g1, g2, g3, g4, g5, g6⟩ := X9 hdu (by omega) hVl hV2 hlt hW rfl
 refine ⟨⟨u.getD (i + (m + 2)) 0, u.getD (i + (m + 1)) 0, u.getD (i + m) 0, (canon V).getD (m + 1) 0, (canon V).getD m 0⟩, ⟨by simp, g3, hu2, hu3, hv1, hv2, g2⟩, ⟨_, rfl⟩, ?_⟩
 intro d hd
 simp only at hd
 rw [← hd] at g4 g5 g6
 clear hd
 have hWVB : W / V < B := by omega
 have fin := Jj (x := x) (y := y) (s := s) (V := V) (U := U) (O := O) (w0 := w0) (Q := Q) (Hs0 := Hs0) hm hx hs0 hsB hV1 hV2 hVl hV0 hul hql hjq hdu hdq heq hlt hW hWVB
 have hdm := Nat.div_add_mod W V
 have hmlt := Nat.mod_lt W hV0
 have hul2 : i + (m + 2 + 1) ≤ u.length := by omega
 have hul3 : u.length < 100002 := by omega
 clear heq hlt hul hql hjq hdq hx hs0 hsB hV2 g1 g2 g3 hu1 hu2 hu3 hv1 hv2 hj a1 a2 a3 b1 b2
 generalize W / V = qd at *
 generalize W % V = rm at *
 refine ⟨by omega, fun _ => ?_⟩
 refine ⟨[d], ⟨rfl, by omega, by omega, kz _ _, by simpa [dig] using g6⟩, ⟨_, rfl⟩, ?_⟩
 intro D hD
 have hD : D = d := by simpa [val] using hD
 subst hD
 have hdl := zq (x := D) (n := 1) (by simpa using g6)
 refine ⟨(V, D), ⟨?_, by simp only [fits]; omega, by simp only [fits]; omega⟩, ⟨_, rfl⟩, ?_⟩
 ·simp only [eqL, eqA, eqA0, true_and, and_true]
  exact ⟨xo (by omega), jR g6⟩
 intro p hp
 simp only at hp ⊢
 have hpl := kG V D
 rw [← hp] at hpl
 iterate 3 refine ⟨by omega, fun _ => ?_⟩
 refine ⟨u, ⟨rfl, hul2, by omega, za _ _ _, hdw⟩, ⟨_, rfl⟩, ?_⟩
 intro W' hW'
 have hW' : W' = W := hW'.trans hW
 subst hW'
 refine ⟨(W', p), ⟨?_, by simp only [fits]; omega, by simp only [fits]; omega⟩, ⟨_, rfl⟩, ?_⟩
 ·simp only [eqL, eqA, eqA0, true_and, and_true]
  exact ⟨je hdw hW, xo hpl⟩
 rintro c rfl
 refine ⟨fun hlt2 => ?_, fun hge2 => ?_⟩
 ·have hlt2 : W' < p := by
   simp only [cmp3, decide_eq_true_eq] at hlt2
   rcases Nat.lt_or_ge W' p with h | h
   ·exact h
   ·rw [if_neg (by omega)] at hlt2; split at hlt2 <;> omega
  have hDQ : D = qd + 1 := by
   rcases Nat.lt_or_ge qd D with h | h
   ·omega
   ·have : V * D ≤ V * qd := Nat.mul_le_mul_left _ h
    omega
  have e3 : ((D : Int) - 1) = ((qd : Nat) : Int) := by omega
  simp only [e3]
  have hQl := zq (x := qd) (n := 1) (by simpa using hWVB)
  iterate 2 refine ⟨by omega, fun _ => ?_⟩
  refine ⟨[qd], ⟨rfl, by omega, by omega, kz _ _, by simpa [dig] using hWVB⟩, ⟨_, rfl⟩, ?_⟩
  intro E hE
  have hE : E = qd := by simpa [val] using hE
  subst hE
  refine ⟨(V, E), ⟨?_, by simp only [fits]; omega, by simp only [fits]; omega⟩, ⟨_, rfl⟩, ?_⟩
  ·simp only [eqL, eqA, eqA0, true_and, and_true]
   exact ⟨xo (by omega), jR hWVB⟩
  intro p2 hp2
  simp only at hp2 ⊢
  have hp2l := kG V E
  rw [← hp2] at hp2l
  iterate 3 refine ⟨by omega, fun _ => ?_⟩
  refine ⟨u, ⟨rfl, hul2, by omega, za _ _ _, hdw⟩, ⟨_, rfl⟩, ?_⟩
  intro W2 hW2
  have hW2 : W2 = W' := hW2.trans hW
  subst hW2
  refine ⟨(W2, p2), ⟨?_, by simp only [fits]; omega, by simp only; omega⟩, ⟨_, rfl⟩, ?_⟩
  ·simp only [eqL, eqA, eqA0, true_and, and_true]
   exact ⟨je hdw hW, xo hp2l⟩
  intro L hL
  simp only at hL ⊢
  have hL : L = rm := by omega
  subst hL
  refine ⟨by omega, fun _ => ?_⟩
  refine fin _ _ ⟨by simp [SC, magS, natS, za, hVl], ?_, by kernel_rfl, Nat.zero_le _⟩
  simp [HD, za]
 ·have hge2 : p ≤ W' := by
   simp only [cmp3, decide_eq_false_iff_not] at hge2
   rcases Nat.lt_or_ge W' p with h | h
   ·rw [if_pos h] at hge2; omega
   ·exact h
  have hDQ : D = qd := by
   rcases Nat.lt_or_ge qd D with h | h
   ·have : V * (qd + 1) ≤ V * D := Nat.mul_le_mul_left _ h
    rw [Nat.mul_add] at this
    omega
   ·omega
  subst hDQ
  iterate 3 refine ⟨by omega, fun _ => ?_⟩
  refine ⟨u, ⟨rfl, hul2, by omega, za _ _ _, hdw⟩, ⟨_, rfl⟩, ?_⟩
  intro W2 hW2
  have hW2 : W2 = W' := hW2.trans hW
  subst hW2
  refine ⟨(W2, p), ⟨?_, by simp only [fits]; omega, hge2⟩, ⟨_, rfl⟩, ?_⟩
  ·simp only [eqL, eqA, eqA0, true_and, and_true]
   exact ⟨je hdw hW, xo hpl⟩
  intro L hL
  simp only at hL ⊢
  have hL : L = rm := by omega
  subst hL
  refine ⟨by omega, fun _ => ?_⟩
  refine fin _ _ ⟨by simp [SC, magS, natS, za, hVl], ?_, by kernel_rfl, Nat.zero_le _⟩
  simp [HD, za]
set_option maxHeartbeats 4000000 in
theorem ZO : ze Try.prog 71 xd := by
 refine xA (fn := Try.f71) (c := Try.f71.body.getD .skip) rfl rfl rfl fun x y hp O w0 Q hq => ?_
 replace hq := hq _ rfl
 obtain ⟨hx, hy, hy0⟩ := hp
 simp only at hq
 have hB : B = 1000000000 := rfl
 refine zb.run hmix JR [0, 1, 4, 8, 9, 10, 11, 12, 13, 15, 151, 152] 400 (T := .ex (fun (x_1 : Nat × Nat) => eqL [AV.sl (canon x).length 1 (natG .u32 (canon x)), AV.sl (canon y).length 1 (natG .u32 (canon y))] [AV.sl (canon x_1.1).length 1 (natG .u32 (canon x_1.1)), AV.sl (canon x_1.2).length 1 (natG .u32 (canon x_1.2))] ∧ fits x_1.1 ∧ fits x_1.2) fun n => .all (fun (r : Int) => r = cmp3 n.1 n.2) fun n => .ite (decide (n < 0)) (.leaf (.ret [.nils, .sl (canon x).length 1 (natG .u32 (canon x))] [])) (.ite (decide ((↑(canon y).length : Int) = 1)) (.side ((0 : Int) ≤ 0 ∧ (0 : Int) < (↑(canon y).length : Int)) (.ex (fun (x_1 : Nat × Nat) => eqL [AV.sl (canon x).length 1 (natG .u32 (canon x)), AV.int .u32 (↑(List.getD (canon y) 0 0) : Int)] [AV.sl (canon x_1.1).length 1 (natG .u32 (canon x_1.1)), AV.int .u32 x_1.2] ∧ fits x_1.1 ∧ 0 < x_1.2 ∧ x_1.2 < 1000000000) fun n => .all (fun (r : Nat × Nat) => r = (n.1 / n.2, n.1 % n.2)) fun n => .ex (fun (u : List Nat) => u.length = 1 ∧ 1 ≤ 1 ∧ 1 < 4611686018427387904 ∧ eqG 1 1 (zc 1 [AV.int .u32 n.2]) (natG .u32 u) ∧ dig (List.take 1 (List.drop 0 u))) fun n_1 => .all (fun (x : Nat) => x = val (List.take 1 (List.drop 0 n_1))) fun n_2 => .leaf (.ret [.sl (canon n.1).length 1 (natG .u32 (canon n.1)), .osl 0 1 0 (canon n_2).length] [.arr 1 1 (zc 1 [.int .u32 n.2])]))) (.side (inR .i64 ((↑(canon y).length : Int) - (1 : Int))) (.side ((0 : Int) ≤ (↑(canon y).length : Int) - (1 : Int) ∧ (↑(canon y).length : Int) - (1 : Int) < (↑(canon y).length : Int)) (.side (inR .u64 (↑(List.getD (canon y) (Int.toNat ((↑(canon y).length : Int) - (1 : Int))) 0) : Int)) (.side (inR .u64 ((↑(List.getD (canon y) (Int.toNat ((↑(canon y).length : Int) - (1 : Int))) 0) : Int) + (1 : Int))) (.side ((↑(List.getD (canon y) (Int.toNat ((↑(canon y).length : Int) - (1 : Int))) 0) : Int) + (1 : Int) ≠ 0 ∧ inR .u64 (Int.tdiv (1000000000 : Int) ((↑(List.getD (canon y) (Int.toNat ((↑(canon y).length : Int) - (1 : Int))) 0) : Int) + (1 : Int)))) (.side (inR .u32 (Int.tdiv (1000000000 : Int) ((↑(List.getD (canon y) (Int.toNat ((↑(canon y).length : Int) - (1 : Int))) 0) : Int) + (1 : Int)))) (.ex (fun (x_1 : Nat × Nat) => eqL [AV.sl (canon x).length 1 (natG .u32 (canon x)), AV.sl 1 1 (zh (zc 1 [AV.int .u32 (Int.tdiv (1000000000 : Int) ((↑(List.getD (canon y) (Int.toNat ((↑(canon y).length : Int) - (1 : Int))) 0) : Int) + (1 : Int)))]) 0)] [AV.sl (canon x_1.1).length 1 (natG .u32 (canon x_1.1)), AV.sl (canon x_1.2).length 1 (natG .u32 (canon x_1.2))] ∧ fits x_1.1 ∧ fits x_1.2) fun n => .all (fun (p : Nat) => p = n.1 * n.2) fun n_1 => .leaf (.loop (Prod.fst (lps K71 0)) (Prod.snd (lps K71 0)) [(0, .sl (canon x).length 1 (natG .u32 (canon x))), (1, .sl (canon y).length 1 (natG .u32 (canon y))), (4, .nils), (8, .int .u32 (Int.tdiv (1000000000 : Int) ((↑(List.getD (canon y) (Int.toNat ((↑(canon y).length : Int) - (1 : Int))) 0) : Int) + (1 : Int)))), (9, .int .i64 (↑(canon y).length : Int)), (10, .osl 1 1 0 (canon n_1).length), (11, .undef), (12, .undef), (13, .undef), (15, .undef), (151, .undef), (152, .undef)] [.arr 1 1 (zc 1 [.int .u32 (Int.tdiv (1000000000 : Int) ((↑(List.getD (canon y) (Int.toNat ((↑(canon y).length : Int) - (1 : Int))) 0) : Int) + (1 : Int)))]), .arr (List.length (canon n.1) + List.length (canon n.2)) 1 (natG .u32 (padN (List.length (canon n.1) + List.length (canon n.2)) n_1))])))))))))) (by kernel_rfl) ?_
 simp only [Tree.holds, zd, inR, lo, hi]
 refine ⟨(x, y), ⟨by simp [za], by simp only [fits]; omega, by simp only [fits]; omega⟩, ⟨_, rfl⟩, ?_⟩
 rintro c rfl
 have hyl : 0 < (canon y).length := jc (n := 0) (by simp; omega)
 refine ⟨fun hlt => ?_, fun hge => ⟨fun h1 => ⟨by omega, fun _ => ?_⟩, fun hn => ?_⟩⟩
 ·have hxy : x < y := by
   simp only [cmp3, decide_eq_true_eq] at hlt
   rcases Nat.lt_or_ge x y with h | h
   ·exact h
   ·rw [if_neg (by omega)] at hlt; split at hlt <;> omega
  rw [Nat.div_eq_of_lt hxy, Nat.mod_eq_of_lt hxy] at hq
  refine RetR.out0 hq (fun h => by cases h) ?_
  simp [resV, exp2, exp1, exp0, ren0, eqA2, eqL1, magS, natS, z6, za]
 ·have h1 : (canon y).length = 1 := by simp at h1; omega
  have hyd : y = (canon y).getD 0 0 := by
   have := zi y
   obtain ⟨a, ha⟩ := List.length_eq_one_iff.1 h1
   rw [ha] at this ⊢
   simp [val] at this ⊢; omega
  have hyB : y < B := hyd ▸ zA (zg y) 0
  rw [← hyd]
  refine ⟨(x, y), ⟨by simp [za], by simp only [fits]; omega, hy0, hyB⟩, ⟨_, rfl⟩, ?_⟩
  rintro r rfl
  have hm := Nat.mod_lt x hy0
  have hmB : x % y < B := by omega
  refine ⟨[x % y], ⟨rfl, by omega, by omega, kz _ _, by simpa [dig] using hmB⟩, ⟨_, rfl⟩, ?_⟩
  intro X hX
  have hX : X = x % y := by simpa [val] using hX
  subst hX
  refine RetR.out0 hq (fun h => by cases h) ?_
  simp only [resV, exp2, List.map_cons, List.map_nil, exp1, exp0, ren0, z0, frz1, jr, List.getElem?_cons_zero, if_true, eqA2, eqL1, eqA, eqA0, magS, natS, true_and, and_true]
  exact ⟨za _ _ _, jR hmB⟩
 ·have hn : 2 ≤ (canon y).length := by simp at hn; omega
  obtain ⟨m, hm⟩ : ∃ m, (canon y).length = m + 2 := ⟨(canon y).length - 2, by omega⟩
  have e1 : ((((canon y).length : Nat) : Int) - 1).toNat = m + 1 := by omega
  have hty := zA (zg y) (m + 1)
  have htop : (canon y).getD (m + 1) 0 ≠ 0 := by
   have := qf (canon y) (by rw [qJ]; omega)
   rw [qJ, hm] at this
   exact this
  have hyv : ∃ r, r < B ^ (m + 1) ∧ y = r + B ^ (m + 1) * (canon y).getD (m + 1) 0 := by
   refine ⟨val ((canon y).take (m + 1)), ?_, ?_⟩
   ·have := zT (qY (zg y) (m + 1))
    rwa [List.length_take, Nat.min_eq_left (by omega)] at this
   ·have := zn (canon y) (m + 1)
    rwa [List.take_of_length_le (by omega), zi] at this
  rw [e1]
  generalize (canon y).getD (m + 1) 0 = t at hty htop hyv ⊢
  have e2 : Int.tdiv 1000000000 ((t : Int) + 1) = ((B / (t + 1) : Nat) : Int) := by
   have : ((t : Int) + 1) = ((t + 1 : Nat) : Int) := by omega
   rw [this]; rfl
  rw [e2]
  obtain ⟨s, hs⟩ : ∃ s, B / (t + 1) = s := ⟨_, rfl⟩
  obtain ⟨hs0, hs1, hs2⟩ := XD (by omega) hs.symm hty
  rw [hs]
  have hsB : s < B := by
   have : s * 2 ≤ s * (t + 1) := Nat.mul_le_mul_left _ (by omega)
   omega
  obtain ⟨r0, hr0, hyr⟩ := hyv
  obtain ⟨hV1, hV2⟩ := scaled hr0 hyr hs0 hs1 hs2
  refine ⟨by omega, fun _ => ⟨by omega, fun _ => ⟨by omega, fun _ => ⟨by omega, fun _ => ⟨by omega, fun _ => ⟨by omega, fun _ => ?_⟩⟩⟩⟩⟩⟩
  have hsl := Zh hs0 hsB
  refine ⟨(x, s), ⟨?_, by simp only [fits]; omega, by simp only [fits]; omega⟩, ⟨_, rfl⟩, ?_⟩
  ·simp only [eqL, eqA, eqA0, true_and, and_true]
   refine ⟨za _ _ _, hsl.symm, ?_⟩
   have := jR hsB
   rwa [hsl] at this
  intro U hU
  simp only at hU ⊢
  rw [hsl]
  have hxs : U < B ^ ((canon x).length + 1) := by
   have h1 := zT (zg x)
   rw [zi] at h1
   rw [hU, Nat.pow_succ]
   exact Nat.mul_lt_mul'' h1 hsB
  have hUl := zq hxs
  have hcan : (canon x).length + 1 ≥ m + 2 := by
   rcases Nat.lt_or_ge (canon x).length (m + 1) with h | h
   ·exfalso
    have := zJ (x := x) (y := y) (by omega)
    simp [cmp3, this] at hge
   ·omega
  have hylx : (canon y).length ≤ (canon x).length := by
   rcases Nat.lt_or_ge (canon x).length (canon y).length with h | h
   ·exfalso
    have := zJ h
    simp [cmp3, this] at hge
   ·exact h
  refine zb.loop (ι := IG x U) (fun i => SG x y s i.k) (fun i => [.dead, .arr i.o.length 1 (natG .u32 i.o)]) (fun i => (canon x).length + 1 - i.k)
   ⟨(canon U).length, padN ((canon x).length + 1) U, by rw [Qk hUl]; exact hUl, by rw [Qk hUl]; omega, qY (YH _ _) _, by simp [padN, zi]⟩ 0 ?_ ?_ (by kernel_rfl)
  ·exact ⟨by simp [SG, magS, natS, za], by simp [za, Qk hUl], by kernel_rfl, Nat.zero_le _⟩
  ·rintro ⟨k, o, hko, hol, hdo, hvo⟩
   refine zb.run hmix JR [0, 1, 4, 8, 9, 10, 11, 12, 13, 15, 151, 152] 400 (T := .ite (decide ((↑k : Int) ≤ (↑(canon x).length : Int))) (.side (0 = 0 ∧ k ≤ o.length ∧ (k + 1) * 4 ≤ 140737488355328) (.leaf (.back 0 [(0, .sl (canon x).length 1 (natG .u32 (canon x))), (1, .sl (canon y).length 1 (natG .u32 (canon y))), (4, .nils), (8, .int .u32 s), (9, .int .i64 (↑(canon y).length : Int)), (10, .osl 1 1 0 (k + 1)), (11, .undef), (12, .undef), (13, .undef), (15, .undef), (151, .undef), (152, .undef)] [.dead, .arr (k + 1) 1 (appG k (natG .u32 o) (zh (zc 1 [.int .u32 0]) 0)), .arr 1 1 (zc 1 [.int .u32 0])]))) (.ex (fun (x : Nat × Nat) => eqL [AV.sl (canon y).length 1 (natG .u32 (canon y)), AV.sl 1 1 (zh (zc 1 [AV.int .u32 s]) 0)] [AV.sl (canon x.1).length 1 (natG .u32 (canon x.1)), AV.sl (canon x.2).length 1 (natG .u32 (canon x.2))] ∧ fits x.1 ∧ fits x.2) fun n => .all (fun (p : Nat) => p = n.1 * n.2) fun n_1 => .side (inR .i64 ((↑k : Int) - (↑(canon y).length : Int))) (.side ((0 : Int) ≤ k - (↑(canon y).length : Int) ∧ (↑k : Int) - (↑(canon y).length : Int) ≤ k - (↑(canon y).length : Int) ∧ inR .i64 ((↑k : Int) - (↑(canon y).length : Int)) ∧ Int.toNat ((↑k : Int) - (↑(canon y).length : Int)) * 4 ≤ 140737488355328) (.side (inR .i64 ((↑k : Int) - (↑(canon y).length : Int))) (.side (inR .i64 ((↑k : Int) - (↑(canon y).length : Int) - (1 : Int))) (.leaf (.loop (Prod.fst (lps (inside K71 0) 0)) (Prod.snd (lps (inside K71 0) 0)) [(0, .sl (canon x).length 1 (natG .u32 (canon x))), (1, .sl (canon y).length 1 (natG .u32 (canon y))), (4, .osl 4 1 0 (Int.toNat ((↑k : Int) - (↑(canon y).length : Int)))), (8, .int .u32 s), (9, .int .i64 (↑(canon y).length : Int)), (10, .osl 1 1 0 k), (11, .osl 3 1 0 (canon n_1).length), (12, .int .i64 ((↑k : Int) - (↑(canon y).length : Int) - (1 : Int))), (13, .undef), (15, .undef), (151, .undef), (152, .undef)] [.dead, .arr o.length 1 (natG .u32 o), .arr 1 1 (zc 1 [.int .u32 s]), .arr (List.length (canon n.1) + List.length (canon n.2)) 1 (natG .u32 (padN (List.length (canon n.1) + List.length (canon n.2)) n_1)), .arr (Int.toNat ((↑k : Int) - (↑(canon y).length : Int))) 1 (jS [.int .u32 0])]))))))) (by kernel_rfl) ?_
   simp only [Tree.holds, zd, inR, lo, hi]
   refine ⟨fun hk => ?_, fun hk => ?_⟩
   ·have hk : k ≤ (canon x).length := by simp at hk; omega
    refine ⟨⟨trivial, hko, by omega⟩, fun _ => ?_⟩
    rw [if_pos trivial]
    have hkl : (o.take k).length = k := by rw [List.length_take]; omega
    refine ⟨⟨k + 1, o.take k ++ [0], by simp [hkl], by simp [hkl]; omega, ?_, ?_⟩, by show _ - (k + 1) < _ - k; omega, by simp [SG, magS, natS, za], ?_, by kernel_rfl, Nat.zero_le _⟩
    ·rw [List.take_of_length_le (by simp [hkl])]; exact qD.2 ⟨hdo, by simp [dig]⟩
    ·rw [List.take_of_length_le (by simp [hkl]), z7]; simp [val, hvo]
    ·refine ⟨trivial, ⟨by simp [hkl], rfl, ?_⟩, trivial⟩
     intro j o' hj ho'
     have : o' = 0 := by omega
     subst this
     simp only [appG, zh, zc, natG]
     by_cases h : j < k
     ·rw [if_pos h]
      simp only [List.getD]
      rw [List.getElem?_append_left (by omega), List.getElem?_take, if_pos h]
     ·have : j = k := by omega
      subst this
      rw [if_neg h]
      simp [List.getElem?_append_right, hkl]
   ·have hk : k = (canon x).length + 1 := by simp at hk; omega
    have hok : o.length = (canon x).length + 1 := by omega
    rw [List.take_of_length_le (by omega)] at hdo hvo
    refine ⟨(y, s), ⟨?_, by simp only [fits]; omega, by simp only [fits]; omega⟩, ⟨_, rfl⟩, ?_⟩
    ·simp only [eqL, eqA, eqA0, true_and, and_true]
     refine ⟨za _ _ _, hsl.symm, ?_⟩
     have := jR hsB
     rwa [hsl] at this
    intro V hV
    simp only at hV ⊢
    rw [hsl]
    rw [← hV] at hV1 hV2
    have hVl : (canon V).length = m + 2 := by
     have h1 := zq hV1
     have h2 : B ^ (m + 1) ≤ V := by
      have : B ^ (m + 1 + 1) = B ^ (m + 1) * B := Nat.pow_succ ..
      rw [this] at hV2
      have : B ^ (m + 1) * 2 ≤ B ^ (m + 1) * B := Nat.mul_le_mul_left _ (by decide)
      omega
     have := jc h2
     omega
    have hV0 : 0 < V := by
     rcases Nat.eq_zero_or_pos V with h | h
     ·rw [h, z6] at hVl; simp at hVl
     ·exact h
    have eq0 : ((k : Int) - ((canon y).length : Int)).toNat = k - (canon y).length := by omega
    rw [eq0]
    refine ⟨by omega, fun _ => ⟨by omega, fun _ => ⟨by omega, fun _ => ⟨by omega, fun _ => ?_⟩⟩⟩⟩
    have hqe : U / V = x / y ∧ U % V = x % y * s := by
     rw [hU, hV]
     exact ⟨Nat.mul_div_mul_right _ _ hs0, Nat.mul_mod_mul_right _ _ _⟩
    refine zb.loop (ι := ID x y V U) (fun i => SD y s V i.u.length i.q.length i.j) (fun i => HD y V i.u i.q) (fun i => i.j)
     ⟨o, List.replicate (k - (canon y).length) 0, k - (canon y).length, hok, by simp; omega, by simp, hdo, q6 _, by simp [val, hvo], ?_⟩ 0 ?_ ?_ (by kernel_rfl)
    ·rw [hvo]
     have h1 : U * 2 ≤ x * B := by
      rw [hU, Nat.mul_assoc]
      refine Nat.mul_le_mul_left _ ?_
      have : s * 2 ≤ s * (t + 1) := Nat.mul_le_mul_left _ (by omega)
      omega
     have h2 : x < B ^ (canon x).length := by have := zT (zg x); rwa [zi] at this
     have h3 : B ^ (m + 1 + 1) * B ^ (k - (canon y).length) ≤ 2 * V * B ^ (k - (canon y).length) := Nat.mul_le_mul_right _ hV2
     rw [← Nat.pow_add, show m + 1 + 1 + (k - (canon y).length) = (canon x).length + 1 by omega, Nat.pow_succ] at h3
     have h4 : x * B < B ^ (canon x).length * B := Nat.mul_lt_mul_of_pos_right h2 (by decide)
     rw [Nat.mul_assoc] at h3
     omega
    ·refine ⟨?_, ?_, by kernel_rfl, Nat.zero_le _⟩
     ·simp [SD, hVl, hm, hok, hk, za]; omega
     ·simp [HD, za, xQ]
    ·rintro ⟨u, q, j, hul, hql, hjq, hdu, hdq, heq, hlt⟩
     rcases j with _ | i
     ·refine zb.run hmix JR [0, 1, 4, 8, 9, 10, 11, 12, 13, 15, 151, 152] 400 (T := .ite false (.side (inR .i64 ((-1 : Int) + (↑(canon y).length : Int))) (.side ((0 : Int) ≤ (-1 : Int) + (↑(canon y).length : Int) ∧ (-1 : Int) + (↑(canon y).length : Int) < u.length) (.side (inR .u64 (↑(List.getD u (0 + Int.toNat ((-1 : Int) + (↑(canon y).length : Int))) 0) : Int)) (.side (inR .i64 ((-1 : Int) + (↑(canon y).length : Int))) (.side (inR .i64 ((-1 : Int) + (↑(canon y).length : Int) - (1 : Int))) (.side ((0 : Int) ≤ (-1 : Int) + (↑(canon y).length : Int) - (1 : Int) ∧ (-1 : Int) + (↑(canon y).length : Int) - (1 : Int) < u.length) (.side (inR .u64 (↑(List.getD u (0 + Int.toNat ((-1 : Int) + (↑(canon y).length : Int) - (1 : Int))) 0) : Int)) (.side (inR .i64 ((-1 : Int) + (↑(canon y).length : Int))) (.side (inR .i64 ((-1 : Int) + (↑(canon y).length : Int) - (2 : Int))) (.side ((0 : Int) ≤ (-1 : Int) + (↑(canon y).length : Int) - (2 : Int) ∧ (-1 : Int) + (↑(canon y).length : Int) - (2 : Int) < u.length) (.side (inR .u64 (↑(List.getD u (0 + Int.toNat ((-1 : Int) + (↑(canon y).length : Int) - (2 : Int))) 0) : Int)) (.side (inR .i64 ((↑(canon y).length : Int) - (1 : Int))) (.side ((0 : Int) ≤ (↑(canon y).length : Int) - (1 : Int) ∧ (↑(canon y).length : Int) - (1 : Int) < (↑(List.length (canon V)) : Int)) (.side (inR .u64 (↑(List.getD (padN (List.length (canon y) + 1) V) (0 + Int.toNat ((↑(canon y).length : Int) - (1 : Int))) 0) : Int)) (.side (inR .i64 ((↑(canon y).length : Int) - (2 : Int))) (.side ((0 : Int) ≤ (↑(canon y).length : Int) - (2 : Int) ∧ (↑(canon y).length : Int) - (2 : Int) < (↑(List.length (canon V)) : Int)) (.side (inR .u64 (↑(List.getD (padN (List.length (canon y) + 1) V) (0 + Int.toNat ((↑(canon y).length : Int) - (2 : Int))) 0) : Int)) (.ex (fun (x : D5) => eqL [AV.int .u64 (↑(List.getD u (0 + Int.toNat ((-1 : Int) + (↑(canon y).length : Int))) 0) : Int), AV.int .u64 (↑(List.getD u (0 + Int.toNat ((-1 : Int) + (↑(canon y).length : Int) - (1 : Int))) 0) : Int), AV.int .u64 (↑(List.getD u (0 + Int.toNat ((-1 : Int) + (↑(canon y).length : Int) - (2 : Int))) 0) : Int), AV.int .u64 (↑(List.getD (padN (List.length (canon y) + 1) V) (0 + Int.toNat ((↑(canon y).length : Int) - (1 : Int))) 0) : Int), AV.int .u64 (↑(List.getD (padN (List.length (canon y) + 1) V) (0 + Int.toNat ((↑(canon y).length : Int) - (2 : Int))) 0) : Int)] [AV.int .u64 (↑(D5.t x) : Int), AV.int .u64 (↑(D5.u x) : Int), AV.int .u64 (↑(D5.v x) : Int), AV.int .u64 (↑(D5.y x) : Int), AV.int .u64 (↑(D5.z x) : Int)] ∧ D5.t x ≤ D5.y x ∧ D5.u x < 1000000000 ∧ D5.v x < 1000000000 ∧ D5.y x < 1000000000 ∧ D5.z x < 1000000000 ∧ 1000000000 ≤ 2 * D5.y x) fun n => .all (fun (n_1 : Nat) => n_1 = qA (D5.v n) (D5.y n) (D5.z n) 2 ((D5.t n * 1000000000 + D5.u n) / D5.y n) ((D5.t n * 1000000000 + D5.u n) % D5.y n)) fun n => .side (inR .u32 (↑n : Int)) (.ex (fun (u : List Nat) => u.length = 1 ∧ 1 ≤ 1 ∧ 1 < 4611686018427387904 ∧ eqG 1 1 (zc 1 [AV.int .u32 n]) (natG .u32 u) ∧ dig (List.take 1 (List.drop 0 u))) fun n_1 => .all (fun (x : Nat) => x = val (List.take 1 (List.drop 0 n_1))) fun n_2 => .ex (fun (x : Nat × Nat) => eqL [AV.sl (List.length (canon V)) 1 (zh (natG .u32 (padN (List.length (canon y) + 1) V)) 0), AV.sl (canon n_2).length 1 (zh (zc 1 [AV.int .u32 n]) 0)] [AV.sl (canon x.1).length 1 (natG .u32 (canon x.1)), AV.sl (canon x.2).length 1 (natG .u32 (canon x.2))] ∧ fits x.1 ∧ fits x.2) fun n_3 => .all (fun (p : Nat) => p = n_3.1 * n_3.2) fun n_4 => .side (inR .i64 ((-1 : Int) + (↑(canon y).length : Int))) (.side (inR .i64 ((-1 : Int) + (↑(canon y).length : Int) + (1 : Int))) (.side ((0 : Int) ≤ (-1 : Int) ∧ (-1 : Int) ≤ (-1 : Int) + (↑(canon y).length : Int) + (1 : Int) ∧ (-1 : Int) + (↑(canon y).length : Int) + (1 : Int) ≤ u.length) (.ex (fun (u_1 : List Nat) => u_1.length = u.length ∧ 0 + (Int.toNat ((-1 : Int) + (↑(canon y).length : Int) + (1 : Int)) - 0) ≤ u.length ∧ Int.toNat ((-1 : Int) + (↑(canon y).length : Int) + (1 : Int)) - 0 < 4611686018427387904 ∧ eqG u.length 1 (natG .u32 u) (natG .u32 u_1) ∧ dig (List.take (Int.toNat ((-1 : Int) + (↑(canon y).length : Int) + (1 : Int)) - 0) (List.drop 0 u_1))) fun n_5 => .all (fun (x : Nat) => x = val (List.take (Int.toNat ((-1 : Int) + (↑(canon y).length : Int) + (1 : Int)) - 0) (List.drop 0 n_5))) fun n_6 => .ex (fun (x : Nat × Nat) => eqL [AV.sl (canon n_6).length 1 (zh (natG .u32 u) 0), AV.sl (canon n_4).length 1 (zh (natG .u32 (padN (List.length (canon n_3.1) + List.length (canon n_3.2)) n_4)) 0)] [AV.sl (canon x.1).length 1 (natG .u32 (canon x.1)), AV.sl (canon x.2).length 1 (natG .u32 (canon x.2))] ∧ fits x.1 ∧ fits x.2) fun n_7 => .all (fun (r : Int) => r = cmp3 n_7.1 n_7.2) fun n_8 => .ite (decide (n_8 < 0)) (.side (inR .u64 ((↑n : Int) - (1 : Int))) (.side (inR .u32 ((↑n : Int) - (1 : Int))) (.ex (fun (u : List Nat) => u.length = 1 ∧ 1 ≤ 1 ∧ 1 < 4611686018427387904 ∧ eqG 1 1 (zc 1 [AV.int .u32 ((↑n : Int) - (1 : Int))]) (natG .u32 u) ∧ dig (List.take 1 (List.drop 0 u))) fun n_9 => .all (fun (x : Nat) => x = val (List.take 1 (List.drop 0 n_9))) fun n_10 => .ex (fun (x : Nat × Nat) => eqL [AV.sl (List.length (canon V)) 1 (zh (natG .u32 (padN (List.length (canon y) + 1) V)) 0), AV.sl (canon n_10).length 1 (zh (zc 1 [AV.int .u32 ((↑n : Int) - (1 : Int))]) 0)] [AV.sl (canon x.1).length 1 (natG .u32 (canon x.1)), AV.sl (canon x.2).length 1 (natG .u32 (canon x.2))] ∧ fits x.1 ∧ fits x.2) fun n_11 => .all (fun (p : Nat) => p = n_11.1 * n_11.2) fun n_12 => .side (inR .i64 ((-1 : Int) + (↑(canon y).length : Int))) (.side (inR .i64 ((-1 : Int) + (↑(canon y).length : Int) + (1 : Int))) (.side ((0 : Int) ≤ (-1 : Int) ∧ (-1 : Int) ≤ (-1 : Int) + (↑(canon y).length : Int) + (1 : Int) ∧ (-1 : Int) + (↑(canon y).length : Int) + (1 : Int) ≤ u.length) (.ex (fun (u_1 : List Nat) => u_1.length = u.length ∧ 0 + (Int.toNat ((-1 : Int) + (↑(canon y).length : Int) + (1 : Int)) - 0) ≤ u.length ∧ Int.toNat ((-1 : Int) + (↑(canon y).length : Int) + (1 : Int)) - 0 < 4611686018427387904 ∧ eqG u.length 1 (natG .u32 u) (natG .u32 u_1) ∧ dig (List.take (Int.toNat ((-1 : Int) + (↑(canon y).length : Int) + (1 : Int)) - 0) (List.drop 0 u_1))) fun n_13 => .all (fun (x : Nat) => x = val (List.take (Int.toNat ((-1 : Int) + (↑(canon y).length : Int) + (1 : Int)) - 0) (List.drop 0 n_13))) fun n_14 => .ex (fun (x : Nat × Nat) => eqL [AV.sl (canon n_14).length 1 (zh (natG .u32 u) 0), AV.sl (canon n_12).length 1 (zh (natG .u32 (padN (List.length (canon n_11.1) + List.length (canon n_11.2)) n_12)) 0)] [AV.sl (canon x.1).length 1 (natG .u32 (canon x.1)), AV.sl (canon x.2).length 1 (natG .u32 (canon x.2))] ∧ fits x.1 ∧ x.2 ≤ x.1) fun n_15 => .all (fun (d : Nat) => d = n_15.1 - n_15.2) fun n_16 => .side (inR .i64 ((↑(canon y).length : Int) + (1 : Int))) (.leaf (.loop (Prod.fst (lps (inside (inside K71 0) 0) 0)) (Prod.snd (lps (inside (inside K71 0) 0) 0)) [(0, .undef), (1, .undef), (4, .osl 4 1 0 q.length), (8, .int .u32 s), (9, .int .i64 (↑(canon y).length : Int)), (10, .osl 1 1 0 u.length), (11, .osl 3 1 0 (List.length (canon V))), (12, .int .i64 (-1 : Int)), (13, .int .u64 ((↑n : Int) - (1 : Int))), (15, .sl (canon n_16).length 1 (natG .u32 (canon n_16))), (151, .int .i64 ((↑(canon y).length : Int) + (1 : Int))), (152, .int .i64 0)] [.dead, .arr u.length 1 (natG .u32 u), .dead, .arr (List.length (canon y) + 1) 1 (natG .u32 (padN (List.length (canon y) + 1) V)), .arr q.length 1 (natG .u32 q), .arr 1 1 (zc 1 [.int .u32 n]), .arr (List.length (canon n_3.1) + List.length (canon n_3.2)) 1 (natG .u32 (padN (List.length (canon n_3.1) + List.length (canon n_3.2)) n_4)), .arr 1 1 (zc 1 [.int .u32 ((↑n : Int) - (1 : Int))]), .arr (List.length (canon n_11.1) + List.length (canon n_11.2)) 1 (natG .u32 (padN (List.length (canon n_11.1) + List.length (canon n_11.2)) n_12))])))))))) (.side (inR .i64 ((-1 : Int) + (↑(canon y).length : Int))) (.side (inR .i64 ((-1 : Int) + (↑(canon y).length : Int) + (1 : Int))) (.side ((0 : Int) ≤ (-1 : Int) ∧ (-1 : Int) ≤ (-1 : Int) + (↑(canon y).length : Int) + (1 : Int) ∧ (-1 : Int) + (↑(canon y).length : Int) + (1 : Int) ≤ u.length) (.ex (fun (u_1 : List Nat) => u_1.length = u.length ∧ 0 + (Int.toNat ((-1 : Int) + (↑(canon y).length : Int) + (1 : Int)) - 0) ≤ u.length ∧ Int.toNat ((-1 : Int) + (↑(canon y).length : Int) + (1 : Int)) - 0 < 4611686018427387904 ∧ eqG u.length 1 (natG .u32 u) (natG .u32 u_1) ∧ dig (List.take (Int.toNat ((-1 : Int) + (↑(canon y).length : Int) + (1 : Int)) - 0) (List.drop 0 u_1))) fun n_9 => .all (fun (x : Nat) => x = val (List.take (Int.toNat ((-1 : Int) + (↑(canon y).length : Int) + (1 : Int)) - 0) (List.drop 0 n_9))) fun n_10 => .ex (fun (x : Nat × Nat) => eqL [AV.sl (canon n_10).length 1 (zh (natG .u32 u) 0), AV.sl (canon n_4).length 1 (zh (natG .u32 (padN (List.length (canon n_3.1) + List.length (canon n_3.2)) n_4)) 0)] [AV.sl (canon x.1).length 1 (natG .u32 (canon x.1)), AV.sl (canon x.2).length 1 (natG .u32 (canon x.2))] ∧ fits x.1 ∧ x.2 ≤ x.1) fun n_11 => .all (fun (d : Nat) => d = n_11.1 - n_11.2) fun n_12 => .side (inR .i64 ((↑(canon y).length : Int) + (1 : Int))) (.leaf (.loop (Prod.fst (lps (inside (inside K71 0) 0) 0)) (Prod.snd (lps (inside (inside K71 0) 0) 0)) [(0, .undef), (1, .undef), (4, .osl 4 1 0 q.length), (8, .int .u32 s), (9, .int .i64 (↑(canon y).length : Int)), (10, .osl 1 1 0 u.length), (11, .osl 3 1 0 (List.length (canon V))), (12, .int .i64 (-1 : Int)), (13, .int .u64 n), (15, .sl (canon n_12).length 1 (natG .u32 (canon n_12))), (151, .int .i64 ((↑(canon y).length : Int) + (1 : Int))), (152, .int .i64 0)] [.dead, .arr u.length 1 (natG .u32 u), .dead, .arr (List.length (canon y) + 1) 1 (natG .u32 (padN (List.length (canon y) + 1) V)), .arr q.length 1 (natG .u32 q), .arr 1 1 (zc 1 [.int .u32 n]), .arr (List.length (canon n_3.1) + List.length (canon n_3.2)) 1 (natG .u32 (padN (List.length (canon n_3.1) + List.length (canon n_3.2)) n_4))])))))))))))))))))))))))))))) (.ex (fun (u_1 : List Nat) => u_1.length = u.length ∧ 0 + u.length ≤ u.length ∧ u.length < 4611686018427387904 ∧ eqG u.length 1 (natG .u32 u) (natG .u32 u_1) ∧ dig (List.take u.length (List.drop 0 u_1))) fun n => .all (fun (x : Nat) => x = val (List.take u.length (List.drop 0 n))) fun n => .ex (fun (x : Nat × Nat) => eqL [AV.sl (canon n).length 1 (zh (natG .u32 u) 0), AV.int .u32 s] [AV.sl (canon x.1).length 1 (natG .u32 (canon x.1)), AV.int .u32 x.2] ∧ fits x.1 ∧ 0 < x.2 ∧ x.2 < 1000000000) fun n => .all (fun (r : Nat × Nat) => r = (n.1 / n.2, n.1 % n.2)) fun n => .ex (fun (u : List Nat) => u.length = q.length ∧ 0 + q.length ≤ q.length ∧ q.length < 4611686018427387904 ∧ eqG q.length 1 (natG .u32 q) (natG .u32 u) ∧ dig (List.take q.length (List.drop 0 u))) fun n_1 => .all (fun (x : Nat) => x = val (List.take q.length (List.drop 0 n_1))) fun n_2 => .leaf (.ret [.osl 4 1 0 (canon n_2).length, .sl (canon n.1).length 1 (natG .u32 (canon n.1))] [.dead, .arr u.length 1 (natG .u32 u), .dead, .arr (List.length (canon y) + 1) 1 (natG .u32 (padN (List.length (canon y) + 1) V)), .arr q.length 1 (natG .u32 q)]))) (by kernel_rfl) ?_
      simp only [Tree.holds, zd, inR, lo, hi]
      refine ⟨fun hj => by simp at hj, fun hj => ?_⟩
      simp only [List.drop_zero, Nat.pow_zero, Nat.mul_one] at heq hlt
      have hdiv : U / V = val q ∧ U % V = val u := by
       rw [heq]
       exact ⟨by rw [Nat.mul_add_div hV0, Nat.div_eq_of_lt hlt, Nat.add_zero], by rw [Nat.mul_add_mod, Nat.mod_eq_of_lt hlt]⟩
      have hqv : val q = x / y := by rw [← hdiv.1, hqe.1]
      have huv : val u = x % y * s := by rw [← hdiv.2, hqe.2]
      refine ⟨u, ⟨rfl, by omega, by omega, za _ _ _, by simpa using hdu⟩, ⟨_, rfl⟩, ?_⟩
      intro X hX
      have hX : X = x % y * s := by simpa [huv] using hX
      have hw : val ((u.drop 0).take u.length) = X := by simp [huv, hX]
      have hXl := je (k := .u32) (u := u) (off := 0) (n := u.length) (by simpa using hdu) hw
      have hmy := Nat.mod_lt x hy0
      have hXlen : (canon X).length ≤ u.length := by
       refine zq ?_
       rw [hX, ← huv]; exact zT hdu
      refine ⟨(X, s), ⟨?_, by simp only [fits]; omega, hs0, hsB⟩, ⟨_, rfl⟩, ?_⟩
      ·simp only [eqL, eqA, eqA0, true_and, and_true]
       exact hXl
      rintro r rfl
      have hXs : X / s = x % y := by rw [hX]; exact Nat.mul_div_cancel _ hs0
      simp only [hXs]
      refine ⟨q, ⟨rfl, by omega, by omega, za _ _ _, by simpa using hdq⟩, ⟨_, rfl⟩, ?_⟩
      intro Y hY
      have hY : Y = x / y := by simpa [hqv] using hY
      subst hY
      refine RetR.out0 hq (fun h => by cases h) ?_
      have hw2 : val ((q.drop 0).take q.length) = x / y := by simp [hqv]
      simp only [resV, exp2, List.map_cons, List.map_nil, exp1, exp0, ren0, z0, frz1, jr, List.getElem?_cons_zero, List.getElem?_cons_succ, if_true, eqA2, eqL1, eqA, eqA0, magS, natS, true_and, and_true]
      exact ⟨je (by simpa using hdq) hw2, za _ _ _⟩
     ·exact Q3 hm hx hs0 hsB hV1 hV2 hVl hV0 hul hql hjq hdu hdq heq hlt
end Go.Proofs.Try
end

/- The integers' texts: reading. -/
section
set_option maxRecDepth 100000
open Go Go.Sx Go.Proofs Go.Nov
namespace Go.Proofs.Try
attribute [local simp] eqKV eqA eqA0 eqH eqB eqL eqL0
noncomputable def K80 : List Go.Sx.Item := [.code (Try.f80.body.getD .skip)]
def VO : Ctr := ctrT false false (fun s : List UInt8 => [.str s]) (fun _ => []) (fun _ => True) (fun _ (_ : Unit) => True) (fun s _ => (.fn 106 [] [.ptr 0 0], [.box [.str s]]))
theorem KE : ze Try.prog 99 VO := by
 refine jw (fn := Try.f99) (c := Try.f99.body.getD .skip) rfl rfl rfl (fun h => by cases h) fun s hp O w0 σ0 Q hl hq => ?_
 have h0 : σ0 = [] := List.length_eq_zero_iff.1 (by simpa using hl)
 subst h0
 refine zb.run hmix zG [0] 400 (T := .leaf (.ret [.fn 106 [] [.ptr 0 0]] [.box [.str s]])) (by kernel_rfl) ?_
 simp only [Tree.holds, zd]
 exact RetR.out1 0 (by simp) (hq () trivial) (fun h => by cases h) (by simp [resV, exp2, exp1, exp0, z0, ren0, eqA2]) (by simp [expB, exp1, exp0, ren0])
noncomputable def G3 : Nat → Option Ctr := fun f => if f = 99 then some (VO) else if f = 82 then some (yn) else none
theorem Z2 : ∀ g c, G3 g = some c → ze Try.prog g c := okIf KE (okIf Ql (zz))
def KR : KV := [(2, .ptr 0 0), (3, .ptr 1 0), (5, .undef), (6, .undef), (16, .fn 106 [] [.ptr 2 0]), (17, .undef), (19, .undef), (20, .undef)]
def HR (neg : Bool) (b : List UInt8) : List Nat → Heap
 | [] => [.box [.bool false, .nils], .box [.bool neg, .nils], .box [.str b]]
 | d :: o => [.box [.bool false, .nils], .box [.bool neg, .osl 4 1 0 (o.length + 1)], .box [.str b], .arr 1 1 (natG .u32 [d]), .arr (o.length + 1) 1 (natG .u32 (d :: o))]
theorem W3 (s : ByteArray) : ∀ e, e ≤ s.size → val ((chunks s e).map decB) = numD (s.data.toList.take e) := by
 intro e
 induction e using Nat.strongRecOn with
 | _ e ih =>
  intro he
  rcases Nat.eq_zero_or_pos e with h | h
  ·subst h; simp [wM, val, numD]
  ·rw [wD s h, List.map_cons, val, ih (e - 9) (by omega) (by omega)]
   have hl : s.data.toList.length = s.size := by rw [Array.length_toList]; rfl
   have h1 : s.data.toList.take e = s.data.toList.take (e - 9) ++ (s.data.toList.take e).drop (e - 9) := by
    conv => lhs; rw [← List.take_append_drop (e - 9) (s.data.toList.take e)]
    rw [List.take_take, Nat.min_eq_left (by omega)]
   rw [h1, wI, decB, xp, Nat.add_comm, Nat.mul_comm]
   congr 1
   rcases Nat.lt_or_ge e 9 with h9 | h9
   ·rw [show e - 9 = 0 by omega]; simp [numD]
   ·congr 1
    have : ((s.data.toList.take e).drop (e - 9)).length = 9 := by simp; omega
    rw [this]
theorem Vl (s : ByteArray) (hd : allD s.data.toList) : ∀ e, e ≤ s.size → ∀ x ∈ chunks s e, x.size ≤ 9 ∧ allD x.data.toList := by
 intro e
 induction e using Nat.strongRecOn with
 | _ e ih =>
  intro he x hx
  rcases Nat.eq_zero_or_pos e with h | h
  ·subst h; simp [wM] at hx
  ·rw [wD s h] at hx
   rcases List.mem_cons.1 hx with rfl | hx
   ·refine ⟨by rw [ByteArray.size_extract]; omega, ?_⟩
    rw [xp]
    intro c hc
    exact hd c (List.mem_of_mem_take (List.mem_of_mem_drop hc))
   ·exact ih (e - 9) (by omega) (by omega) x hx
theorem ud (s : ByteArray) : ∀ e, (chunks s e).length ≤ e := by
 intro e
 induction e using Nat.strongRecOn with
 | _ e ih =>
  rcases Nat.eq_zero_or_pos e with h | h
  ·subst h; simp [wM]
  ·rw [wD s h, List.length_cons]
   have := ih (e - 9) (by omega)
   omega
abbrev Grp : Type := {x : ByteArray // x.size ≤ 9 ∧ allD x.data.toList}
def X1 : Ctr := ctrP false (fun p : Bool × List UInt8 => [.str (sgn p.1 p.2)]) (fun p => allD p.2 ∧ p.2 ≠ [] ∧ p.2.length ≤ 1000000) (fun p r => r = numD p.2) (fun p r => (.agg [.bool p.1, magS r], []))
def SR (x : List UInt8) (v i : Nat) : KV := [(2, .ptr 0 0), (3, .ptr 1 0), (5, .str x), (6, .int .u32 (v : Int)), (16, .undef), (17, .undef), (19, .int .i64 (x.length : Int)), (20, .int .i64 (i : Int))]
theorem KI {O : Nat → Prop} {W : World} {σ1 : List SE} (l : Nat) (neg : Bool) (b : List UInt8) (o : List Nat) (ho : o.length ≤ 1000000) (y : List UInt8) (hxd : allD y) (hx9 : y.length ≤ 9) (X : Prop) (Hx : Heap) :
  qa (some l) Try.prog (bare Try.f80) O 3 W σ1 (fun d kv' h' => LeK 3 Try.f80.ntmps [] h' [] (HR neg b (o ++ [numD y]))) (fun _ h' => X ∧ LeK 3 Try.f80.ntmps [] h' [] Hx) (.code (.loop (lps (roundOf K80 0) 0).1) :: (lps (roundOf K80 0) 0).2)
   (mk Try.f80.ntmps [(2, .ptr 0 0), (3, .ptr 1 0), (5, .str y), (6, .int .u32 0), (16, .fn 106 [] [.ptr 2 0]), (17, .str y), (19, .int .i64 (y.length : Int)), (20, .int .i64 0)] (HR neg b o)) := by
 refine zb.loop (ι := {i : Nat // i ≤ y.length}) (fun i => SR y (numD (y.take i.1)) i.1) (fun _ => HR neg b o) (fun i => y.length - i.1) ⟨0, Nat.zero_le _⟩ 1 ?_ ?_ (by kernel_rfl)
 ·refine ⟨by simp [SR, numD], ?_, ?_, ?_⟩
  ·cases o <;> simp [HR, za]
  ·cases o <;> kernel_rfl
  ·cases o <;> simp [HR]
 ·rintro ⟨i, hil⟩
  have hbound : numD (y.take i) < 1000000000 := by
   have h1 := xz (l := y.take i) fun c hc => hxd c (List.mem_of_mem_take hc)
   have h2 : 10 ^ (y.take i).length ≤ 10 ^ 9 := Nat.pow_le_pow_right (by decide) (by rw [List.length_take]; omega)
   have h4 : (10 : Nat) ^ 9 = 1000000000 := by decide
   omega
  have hnext : ∀ h : i < y.length, numD (y.take (i + 1)) = numD (y.take i) * 10 + ((y.getD i 0).toNat - 48) := by
   intro h; rw [Wc y i h, K2]
  have hdig : i < y.length → 48 ≤ (y.getD i 0).toNat ∧ (y.getD i 0).toNat ≤ 57 := by
   intro h
   have := hxd (y.getD i 0) (by simp [List.getD, h])
   exact this
  have hnb : i < y.length → numD (y.take (i + 1)) < 1000000000 := by
   intro h
   have h1 := xz (l := y.take (i + 1)) fun c hc => hxd c (List.mem_of_mem_take hc)
   have h2 : 10 ^ (y.take (i + 1)).length ≤ 10 ^ 9 := Nat.pow_le_pow_right (by decide) (by rw [List.length_take]; omega)
   have h4 : (10 : Nat) ^ 9 = 1000000000 := by decide
   omega
  obtain ⟨v, hv⟩ : ∃ v, numD (y.take i) = v := ⟨_, rfl⟩
  simp only [hv] at hbound hnext ⊢
  have ei : ((i : Int) + 1) = ((i + 1 : Nat) : Int) := by omega
  cases o with
  | nil =>
   refine zb.run hmix Z2 [2, 3, 5, 6, 16, 17, 19, 20] 400 (T := .ite (decide ((↑i : Int) < y.length)) (.side (inR .u32 ((↑v : Int) * (10 : Int))) (.side ((0 : Int) ≤ i ∧ (↑i : Int) < y.length) (.side (inR .u8 ((↑(UInt8.toNat (List.getD y (Int.toNat (↑i : Int)) (0 : UInt8))) : Int) - (48 : Int))) (.side (inR .u32 ((↑(UInt8.toNat (List.getD y (Int.toNat (↑i : Int)) (0 : UInt8))) : Int) - (48 : Int))) (.side (inR .u32 ((↑v : Int) * (10 : Int) + ((↑(UInt8.toNat (List.getD y (Int.toNat (↑i : Int)) (0 : UInt8))) : Int) - (48 : Int)))) (.side (inR .i64 ((↑i : Int) + (1 : Int))) (.leaf (.back 1 [(2, .ptr 0 0), (3, .ptr 1 0), (5, .str y), (6, .int .u32 ((↑v : Int) * (10 : Int) + ((↑(UInt8.toNat (List.getD y (Int.toNat (↑i : Int)) (0 : UInt8))) : Int) - (48 : Int)))), (16, .undef), (17, .undef), (19, .int .i64 y.length), (20, .int .i64 ((↑i : Int) + (1 : Int)))] [.box [.bool false, .nils], .box [.bool neg, .nils], .box [.str b]])))))))) (.side (4 ≤ 140737488355328) (.leaf (.back 0 [(2, .ptr 0 0), (3, .ptr 1 0), (5, .str y), (6, .int .u32 v), (16, .undef), (17, .undef), (19, .int .i64 y.length), (20, .int .i64 i)] [.box [.bool false, .nils], .box [.bool neg, .osl 4 1 0 1], .box [.str b], .arr 1 1 (zc 1 [.int .u32 v]), .arr 1 1 (zh (zc 1 [.int .u32 v]) 0)])))) (by kernel_rfl) ?_
   simp only [Tree.holds, zd, inR, lo, hi, Int.toNat_natCast, ei]
   refine ⟨fun hlt => ?_, fun hge => ?_⟩
   ·have hlt : i < y.length := by simp at hlt; omega
    have h1 := hdig hlt
    have h2 := hnb hlt
    have h3 := hnext hlt
    generalize (y.getD i 0).toNat = c at h1 h3 ⊢
    iterate 6 refine ⟨by omega, fun _ => ?_⟩
    rw [if_pos trivial]
    refine ⟨⟨i + 1, hlt⟩, by show y.length - (i + 1) < y.length - i; omega, ?_, by simp [HR], by kernel_rfl, by simp [HR]⟩
    simp [SR, h3]; omega
   ·have hge : i = y.length := by simp at hge; omega
    subst hge
    rw [List.take_length] at hv
    refine ⟨by omega, fun _ => ?_⟩
    rw [if_neg (by decide), hv]
    refine ⟨by simp, ?_, by kernel_rfl, by simp [HR]⟩
    simp only [List.nil_append, HR]
    refine ⟨by simp, by simp, by simp, ⟨rfl, rfl, kz _ _⟩, ⟨rfl, rfl, ?_⟩, trivial⟩
    exact fun j o hj ho => by simpa [zh] using kz .u32 v j o hj ho
  | cons d o =>
   refine zb.run hmix Z2 [2, 3, 5, 6, 16, 17, 19, 20] 400 (T := .ite (decide ((↑i : Int) < y.length)) (.side (inR .u32 ((↑v : Int) * (10 : Int))) (.side ((0 : Int) ≤ i ∧ (↑i : Int) < y.length) (.side (inR .u8 ((↑(UInt8.toNat (List.getD y (Int.toNat (↑i : Int)) (0 : UInt8))) : Int) - (48 : Int))) (.side (inR .u32 ((↑(UInt8.toNat (List.getD y (Int.toNat (↑i : Int)) (0 : UInt8))) : Int) - (48 : Int))) (.side (inR .u32 ((↑v : Int) * (10 : Int) + ((↑(UInt8.toNat (List.getD y (Int.toNat (↑i : Int)) (0 : UInt8))) : Int) - (48 : Int)))) (.side (inR .i64 ((↑i : Int) + (1 : Int))) (.leaf (.back 1 [(2, .ptr 0 0), (3, .ptr 1 0), (5, .str y), (6, .int .u32 ((↑v : Int) * (10 : Int) + ((↑(UInt8.toNat (List.getD y (Int.toNat (↑i : Int)) (0 : UInt8))) : Int) - (48 : Int)))), (16, .undef), (17, .undef), (19, .int .i64 y.length), (20, .int .i64 ((↑i : Int) + (1 : Int)))] [.box [.bool false, .nils], .box [.bool neg, .osl 4 1 0 (o.length + 1)], .box [.str b], .arr 1 1 (natG .u32 [d]), .arr (o.length + 1) 1 (natG .u32 (d :: o))])))))))) (.side (0 = 0 ∧ o.length + 1 ≤ o.length + 1 ∧ (o.length + 1 + 1) * 4 ≤ 140737488355328) (.leaf (.back 0 [(2, .ptr 0 0), (3, .ptr 1 0), (5, .str y), (6, .int .u32 v), (16, .undef), (17, .undef), (19, .int .i64 y.length), (20, .int .i64 i)] [.box [.bool false, .nils], .box [.bool neg, .osl 4 1 0 (o.length + 1 + 1)], .box [.str b], .arr 1 1 (natG .u32 [d]), .arr (o.length + 1 + 1) 1 (appG (o.length + 1) (natG .u32 (d :: o)) (zh (zc 1 [.int .u32 v]) 0)), .arr 1 1 (zc 1 [.int .u32 v])])))) (by kernel_rfl) ?_
   simp only [Tree.holds, zd, inR, lo, hi, Int.toNat_natCast, ei]
   refine ⟨fun hlt => ?_, fun hge => ?_⟩
   ·have hlt : i < y.length := by simp at hlt; omega
    have h1 := hdig hlt
    have h2 := hnb hlt
    have h3 := hnext hlt
    generalize (y.getD i 0).toNat = c at h1 h3 ⊢
    iterate 6 refine ⟨by omega, fun _ => ?_⟩
    rw [if_pos trivial]
    refine ⟨⟨i + 1, hlt⟩, by show y.length - (i + 1) < y.length - i; omega, ?_, by simp [HR, za], by kernel_rfl, by simp [HR]⟩
    simp [SR, h3]; omega
   ·have hge : i = y.length := by simp at hge; omega
    subst hge
    rw [List.take_length] at hv
    refine ⟨⟨trivial, Nat.le_refl _, by simp only [List.length_cons] at ho; omega⟩, fun _ => ?_⟩
    rw [if_neg (by decide), hv]
    refine ⟨by simp, ?_, by kernel_rfl, by simp [HR]⟩
    simp only [List.cons_append, HR]
    refine ⟨by simp, by simp, by simp, ⟨rfl, rfl, za _ _ _⟩, ⟨by simp, rfl, ?_⟩, trivial⟩
    have := xq (k := .u32) (l := d :: o) (v := ((v : Nat) : Int)) (by omega)
    simpa using this
theorem WY {O : Nat → Prop} {W : World} {σ1 : List SE} (l : Nat) (neg : Bool) (b : List UInt8) (o : List Nat) (ho : o.length ≤ 1000000) (x : Grp) (X : Prop) (Hx : Heap) :
  qa (some l) Try.prog (bare Try.f80) O 3 W σ1 (fun d kv' h' => LeK 3 Try.f80.ntmps [] h' [] (HR neg b (o ++ [decB x.1]))) (fun _ h' => X ∧ LeK 3 Try.f80.ntmps [] h' [] Hx) (roundOf K80 0) (mk Try.f80.ntmps ((5, .str x.1.data.toList) :: (17, .str x.1.data.toList) :: KR) (HR neg b o)) := by
 obtain ⟨x, hx9, hxd⟩ := x
 simp only
 have hxl : x.data.toList.length = x.size := by rw [Array.length_toList]; rfl
 have hdB : decB x = numD x.data.toList := rfl
 rw [hdB]
 generalize x.data.toList = y at hxd hxl
 have core : qa (some l) Try.prog (bare Try.f80) O 3 W σ1 (fun d kv' h' => LeK 3 Try.f80.ntmps [] h' [] (HR neg b (o ++ [numD y]))) (fun _ h' => X ∧ LeK 3 Try.f80.ntmps [] h' [] Hx) (.code (.loop (lps (roundOf K80 0) 0).1) :: (lps (roundOf K80 0) 0).2)
   (mk Try.f80.ntmps [(2, .ptr 0 0), (3, .ptr 1 0), (5, .str y), (6, .int .u32 0), (16, .fn 106 [] [.ptr 2 0]), (17, .str y), (19, .int .i64 (y.length : Int)), (20, .int .i64 0)] (HR neg b o)) := by
  exact KI l neg b o ho y hxd (by omega) X Hx
 cases o with
 | nil =>
  refine zb.run hmix Z2 [2, 3, 5, 6, 16, 17, 19, 20] 400 (T := .leaf (.loop (Prod.fst (lps (roundOf K80 0) 0)) (Prod.snd (lps (roundOf K80 0) 0)) [(2, .ptr 0 0), (3, .ptr 1 0), (5, .str y), (6, .int .u32 0), (16, .fn 106 [] [.ptr 2 0]), (17, .str y), (19, .int .i64 y.length), (20, .int .i64 0)] [.box [.bool false, .nils], .box [.bool neg, .nils], .box [.str b]])) (by kernel_rfl) ?_
  simp only [Tree.holds, zd]
  exact core
 | cons d o =>
  refine zb.run hmix Z2 [2, 3, 5, 6, 16, 17, 19, 20] 400 (T := .leaf (.loop (Prod.fst (lps (roundOf K80 0) 0)) (Prod.snd (lps (roundOf K80 0) 0)) [(2, .ptr 0 0), (3, .ptr 1 0), (5, .str y), (6, .int .u32 0), (16, .fn 106 [] [.ptr 2 0]), (17, .str y), (19, .int .i64 y.length), (20, .int .i64 0)] [.box [.bool false, .nils], .box [.bool neg, .osl 4 1 0 (o.length + 1)], .box [.str b], .arr 1 1 (natG .u32 [d]), .arr (o.length + 1) 1 (natG .u32 (d :: o))])) (by kernel_rfl) ?_
  simp only [Tree.holds, zd]
  exact core
theorem XK (neg : Bool) (b : List UInt8) (o : List Nat) : ∀ x ∈ HR neg b o, alive x := by
 cases o with
 | nil => simp [HR, alive]
 | cons d o => simp [HR, alive]
theorem K0 {O : Nat → Prop} {w0 : World} {Q : AV × Heap → Prop} (neg : Bool) (b : List UInt8) (hb : allD b) (hb0 : b ≠ []) (hbl : b.length ≤ 1000000) (hq : Q (.agg [.bool neg, magS (numD b)], [])) :
  zb Try.prog Try.f80 O 0 w0 [] (fun _ _ _ => False) (RetR X1 0 Q) (.code (rfs K80 0).1 :: (rfs K80 0).2) (mk Try.f80.ntmps KR (HR neg b [])) := by
 let s : ByteArray := ⟨b.toArray⟩
 have hsl : s.data.toList = b := rfl
 have hss : s.size = b.length := by simp [s, ByteArray.size]
 refine zb.range (tg := 16) (tp := 17) (td := 5) (α := Grp) (by kernel_rfl) (cap := [.ptr 2 0]) (enters_of Try.func106 (by kernel_rfl) rfl) (fun x => .str x.1.data.toList) (fun pre => HR neg b (pre.map fun x => decB x.1)) (fun _ => []) (fun _ => False) (fun xs => xs.map (·.1) = chunks s s.size) (fun pre => pre.map (·.1) <+: chunks s s.size) (chunks s s.size).length 3
  (by kernel_rfl) (by decide +kernel) (by decide +kernel) (fun x t c y h => by cases h) ⟨by simp [KR], by simp [HR], by kernel_rfl, Nat.zero_le _⟩ (by kernel_rfl) (Nat.zero_le _) (fun pre => XK _ _ _) (fun pre c hc => by cases hc) ?_ ?_ ?_ (fun _ _ h => h.elim)
 ·
  intro w σ a hm vb hvb
  simp only [RepL] at hvb
  obtain ⟨v, r, rfl, hv, rfl⟩ := hvb
  simp only [Rep] at hv
  obtain ⟨e, ad, he, had, rfl⟩ := hv
  have hcell : ∀ (W : World) (σ' : List SE) (o : List Nat), HRep (Go.Sx.Own O σ') W σ' (HR neg b o) → ∀ e' ad, σ'[2]? = some e' → e'.ad = some ad → W.cell? ⟨ad.block, ad.off + 0, none⟩ = some (.string s) := by
   intro W σ' o hp e' ad he' had'
   have hb2 : (HR neg b o)[2]? = some (.box [.str b]) := by cases o <;> rfl
   obtain ⟨ad', vs, el, h1, h2, h3, h4⟩ := hp.blk 2 e' _ he' hb2
   rw [had'] at h1; cases h1
   simp only [RepL, Rep] at h4
   obtain ⟨v, r, rfl, rfl, rfl⟩ := h4
   simp [World.cell?, h3, h2, s]
  refine ⟨fun W => W.cell? ⟨ad.block, ad.off + 0, none⟩ = some (.string s), fun x => .string x.1, ?_, ?_, ?_⟩
  ·exact Try.Zg (fun x => x.size ≤ 9 ∧ allD x.data.toList) ⟨ad.block, ad.off + 0, none⟩ s (Vl s (hsl ▸ hb) s.size (Nat.le_refl _)) (by omega) w (hcell w σ [] hm.hp e ad he had)
  ·intro pre W σ' hM
   refine ⟨?_, fun x => by simp [Rep]⟩
   have ht := hM.tm 16
   have h16 : (mk Try.f80.ntmps KR (HR neg b (pre.map fun x => decB x.1))).tmps.getD 16 .undef = .fn 106 [] [.ptr 2 0] := by kernel_rfl
   have ht0 := hm.tm 16
   have h160 : (mk Try.f80.ntmps KR (HR neg b (([] : List Grp).map fun x => decB x.1))).tmps.getD 16 .undef = .fn 106 [] [.ptr 2 0] := by kernel_rfl
   rw [h16] at ht
   rw [h160] at ht0
   simp only [TRep, Rep, RepL] at ht ht0
   obtain ⟨va, vb', h1, _, v, r, h2, ⟨e1, ad1, h3, h4, h5⟩, h6⟩ := ht
   obtain ⟨va', vb2, g1, _, v', r', g2, ⟨e2, ad2, g3, g4, g5⟩, g6⟩ := ht0
   rw [he] at g3; cases g3
   rw [had] at g4; cases g4
   rw [g1] at h1
   simp only [Value.func.injEq] at h1
   have h7 : vb2 = vb' := by
    have := h1.2.2
    simpa using this
   rw [g2, h2, g5, h5] at h7
   simp only [List.cons.injEq, Value.pointer.injEq, Option.some.injEq] at h7
   have h8 := hcell W σ' _ hM.hp e1 ad1 h3 h4
   rw [← h7.1] at h8
   exact h8
  ·intro W l o o' hl ho hoc hK
   exact Wi (grownBy_putObj' W l o') (fun r e => by cases e; exact ⟨o, ho, hoc⟩) hK
 ·
  intro l pre x hlen W σ1
  have hpl : (pre.map fun x => decB x.1).length ≤ 1000000 := by
   have := ud s s.size
   simp; omega
  have := WY (O := O) (W := W) (σ1 := σ1) l neg b (pre.map fun x => decB x.1) hpl x False []
  simp only [List.map_append, List.map_cons, List.map_nil]
  exact this
 ·
  intro xs hxs
  have ho : xs.map (fun x => decB x.1) = (chunks s s.size).map decB := by rw [← hxs, List.map_map]; rfl
  have hv : val (xs.map fun x => decB x.1) = numD b := by
   rw [ho, W3 s s.size (Nat.le_refl _), List.take_of_length_le (by rw [Array.length_toList]; exact Nat.le_refl _)]
  have hdg : dig (xs.map fun x => decB x.1) := by
   intro d hd
   obtain ⟨x, _, rfl⟩ := List.mem_map.1 hd
   exact YM x.2.2 x.2.1
  have hpos : 0 < s.size := by rw [hss]; exact List.length_pos_iff.2 hb0
  have hle : (xs.map fun x => decB x.1).length ≤ 1000000 := by
   rw [ho, List.length_map]
   have := ud s s.size
   omega
  have hne : xs.map (fun x => decB x.1) ≠ [] := by
   rw [ho, wD s hpos]; simp
  generalize xs.map (fun x => decB x.1) = l at hv hdg hle hne
  cases l with
  | nil => exact absurd rfl hne
  | cons d o =>
   simp only [List.length_cons] at hle
   refine zb.run hmix Z2 [2, 3, 5, 6, 16, 17, 19, 20] 400 (T := .ex (fun (u : List Nat) => u.length = o.length + 1 ∧ 0 + (o.length + 1) ≤ o.length + 1 ∧ o.length + 1 < 4611686018427387904 ∧ eqG (o.length + 1) 1 (natG .u32 (d :: o)) (natG .u32 u) ∧ dig (List.take (o.length + 1) (List.drop 0 u))) fun n => .all (fun (x : Nat) => x = val (List.take (o.length + 1) (List.drop 0 n))) fun n => .leaf (.ret [.agg [.bool neg, .osl 4 1 0 (canon n).length]] [.box [.bool neg, .osl 4 1 0 (canon n).length], .box [.bool neg, .osl 4 1 0 (canon n).length], .box [.str b], .arr 1 1 (natG .u32 [d]), .arr (o.length + 1) 1 (natG .u32 (d :: o))])) (by kernel_rfl) ?_
   simp only [Tree.holds, zd]
   have htk : (List.take (o.length + 1) (List.drop 0 (d :: o))) = d :: o := by simp
   refine ⟨d :: o, ⟨rfl, by omega, by omega, za _ _ _, by rw [htk]; exact hdg⟩, ⟨_, rfl⟩, ?_⟩
   intro X hX
   have hX : X = numD b := by rw [htk, hv] at hX; exact hX
   subst hX
   refine RetR.out0 hq (fun h => by cases h) ?_
   simp only [resV, exp2, exp1, List.map_cons, List.map_nil, exp0, ren0, z0, frz1, jr, List.getElem?_cons_zero, List.getElem?_cons_succ, if_true, eqA2, eqA, eqL0, eqA0, magS, natS, true_and, and_true]
   exact je (u := d :: o) (off := 0) (n := o.length + 1) (by simpa using hdg) (by simpa using hv)
theorem Ud : ze Try.prog 80 X1 := by
 refine zr (fn := Try.f80) (c := Try.f80.body.getD .skip) rfl rfl rfl fun p hp O w0 Q hq => ?_
 obtain ⟨neg, b⟩ := p
 obtain ⟨hb, hb0, hbl⟩ := hp
 replace hq := hq _ rfl
 simp only at hb hb0 hbl hq
 obtain ⟨s, hs⟩ : ∃ s, sgn neg b = s := ⟨_, rfl⟩
 simp only [hs]
 refine zb.run hmix Z2 [2, 3, 5, 6, 16, 17, 19, 20] 400 (T := .side ((0 : Int) ≤ 0 ∧ (0 : Int) < s.length) (.ite (decide ((↑(UInt8.toNat (List.getD s 0 (0 : UInt8))) : Int) = 45)) (.side ((0 : Int) ≤ 1 ∧ (1 : Int) ≤ s.length) (.ex (fun (x : List UInt8) => eqL [AV.str (List.drop 1 (List.take s.length s))] [AV.str x] ∧ eqH [] [] ∧ 0 = 0 ∧ True) fun n => .all (fun (x : Unit) => True) fun n_1 => .leaf (.range (Prod.fst (rfs K80 0)) (Prod.snd (rfs K80 0)) [(2, .ptr 0 0), (3, .ptr 1 0), (5, .undef), (6, .undef), (16, .fn 106 [] [.ptr 2 0]), (17, .undef), (19, .undef), (20, .undef)] [.box [.bool false, .nils], .box [.bool true, .nils], .box [.str n]]))) (.ex (fun (x : List UInt8) => eqL [AV.str s] [AV.str x] ∧ eqH [] [] ∧ 0 = 0 ∧ True) fun n => .all (fun (x : Unit) => True) fun n_1 => .leaf (.range (Prod.fst (rfs K80 0)) (Prod.snd (rfs K80 0)) [(2, .ptr 0 0), (3, .ptr 1 0), (5, .undef), (6, .undef), (16, .fn 106 [] [.ptr 2 0]), (17, .undef), (19, .undef), (20, .undef)] [.box [.bool false, .nils], .box [.bool false, .nils], .box [.str n]])))) (by kernel_rfl) ?_
 subst hs
 have hmain := K0 (O := O) (w0 := w0) neg b hb hb0 hbl hq
 obtain ⟨c, b', rfl⟩ := List.exists_cons_of_ne_nil hb0
 have hc := hb c (by simp)
 simp only [Tree.holds, zd]
 cases neg with
 | true =>
  simp only [sgn, if_true]
  refine ⟨by simp; omega, fun _ => ⟨fun _ => ⟨by simp; omega, fun _ => ?_⟩, fun h => by simp at h⟩⟩
  refine ⟨c :: b', ⟨by simp, by simp, by simp⟩, ⟨(), trivial⟩, fun _ _ => hmain⟩
 | false =>
  simp only [sgn, Bool.false_eq_true, if_false]
  refine ⟨by simp, fun _ => ⟨fun h => ?_, fun _ => ?_⟩⟩
  ·simp at h; omega
  ·refine ⟨c :: b', ⟨by simp, by simp, by simp⟩, ⟨(), trivial⟩, fun _ _ => hmain⟩
end Go.Proofs.Try
end

/- The integers' texts: writing. -/
section
set_option maxRecDepth 100000
open Go Go.Sx Go.Proofs Go.Nov
namespace Go.Proofs.Try
attribute [local simp] eqKV eqA eqA0 eqH eqB eqL eqL0
noncomputable def K81 : List Go.Sx.Item := [.code (Try.f81.body.getD .skip)]
noncomputable def K66 : List Go.Sx.Item := [.code (Try.f66.body.getD .skip)]
def j7 (l : List Nat) (n i : Nat) : List Nat := (List.range l.length).map fun p => if p < n ∧ (p < i ∨ n - i ≤ p) then l.getD (n - 1 - p) 0 else l.getD p 0
theorem xT (l : List Nat) (n i : Nat) : (j7 l n i).length = l.length := by simp [j7]
theorem ZB {l : List Nat} {n i p : Nat} (h : p < l.length) : (j7 l n i).getD p 0 = if p < n ∧ (p < i ∨ n - i ≤ p) then l.getD (n - 1 - p) 0 else l.getD p 0 := by
 simp [j7, List.getD, h]
theorem JW (l : List Nat) (n : Nat) : j7 l n 0 = l := by
 apply List.ext_getElem (by simp [j7])
 intro p h1 h2
 simp only [j7, List.getElem_map, List.getElem_range]
 rw [if_neg (by omega)]; simp [h2]
theorem Wu {l : List Nat} {n i : Nat} (hn : n ≤ l.length) (hi2 : i < n - 1 - i) : ((j7 l n i).set i ((j7 l n i).getD (n - 1 - i) 0)).set (n - 1 - i) ((j7 l n i).getD i 0) = j7 l n (i + 1) := by
 rw [ZB (by omega), ZB (by omega), if_neg (by omega), if_neg (by omega)]
 apply List.ext_getElem (by simp [j7])
 intro p h1 h2
 rw [xT] at h2
 simp only [List.getElem_set, j7, List.getElem_map, List.getElem_range]
 by_cases ha : n - 1 - i = p
 ·rw [if_pos ha, if_pos (by omega)]; congr 1; omega
 ·rw [if_neg ha]
  by_cases hb : i = p
  ·subst hb; rw [if_pos rfl, if_pos (by omega)]
  ·rw [if_neg hb]
   by_cases hc : p < n ∧ (p < i ∨ n - i ≤ p)
   ·rw [if_pos hc, if_pos (by omega)]
   ·rw [if_neg hc, if_neg (by omega)]
theorem K5 {l : List Nat} {n i : Nat} (hn : n ≤ l.length) (hi2 : n - 1 - i ≤ i) : j7 l n i = (l.take n).reverse ++ l.drop n := by
 apply List.ext_getElem (by simp [j7]; omega)
 intro p h1 h2
 rw [xT] at h1
 simp only [j7, List.getElem_map, List.getElem_range]
 have hl : (l.take n).reverse.length = n := by simp; omega
 by_cases ha : p < n
 ·rw [List.getElem_append_left (by omega), List.getElem_reverse, List.getElem_take]
  have e : (l.take n).length - 1 - p = n - 1 - p := by simp; omega
  simp only [e]
  by_cases hc : p < i ∨ n - i ≤ p
  ·rw [if_pos ⟨ha, hc⟩]; simp [show n - 1 - p < l.length by omega]
  ·rw [if_neg (fun h => hc h.2)]
   have : n - 1 - p = p := by omega
   simp [this, h1]
 ·rw [if_neg (fun h => ha h.1), List.getElem_append_right (by omega)]
  simp only [hl, List.getElem_drop]
  have : n + (p - n) = p := by omega
  simp [this, h1]
def ui : Ctr := ctrT false false (fun p : List Nat × Nat => [.osl 0 1 0 p.2]) (fun p => [.arr p.1.length 1 (natG .u8 p.1)]) (fun p => p.2 ≤ p.1.length ∧ p.1.length < 2 ^ 62) (fun _ (_ : Unit) => True) (fun p _ => (.tup [], [.arr p.1.length 1 (natG .u8 ((p.1.take p.2).reverse ++ p.1.drop p.2))]))
def SV (n i : Nat) : KV := [(0, .osl 0 1 0 n), (2, .int .i64 (i : Int)), (3, .int .i64 ((n : Int) - 1 - i))]
theorem Wd : ze Try.prog 81 ui := by
 refine jw (fn := Try.f81) (c := Try.f81.body.getD .skip) rfl rfl rfl (fun h => by cases h) fun p hp O w0 σ0 Q hl0 hq => ?_
 obtain ⟨l, n⟩ := p
 obtain ⟨hn, hl⟩ := hp
 replace hq := hq () trivial
 simp only at hn hl hq
 refine zb.run hmix zG [0, 2, 3] 400 (T := Tree.side (inR IntKind.i64 ((↑n : Int) - (1 : Int))) (Tree.leaf (jQ.loop (Prod.fst (lps K81 (0 : Nat))) (Prod.snd (lps K81 (0 : Nat))) [((0 : Nat), AV.osl (0 : Nat) (1 : Nat) (0 : Nat) n), ((2 : Nat), AV.int IntKind.i64 (0 : Int)), ((3 : Nat), AV.int IntKind.i64 ((↑n : Int) - (1 : Int)))] [Blk.arr (List.length l) (1 : Nat) (natG IntKind.u8 l)]))) (by kernel_rfl) ?_
 simp only [Tree.holds, zd, inR, lo, hi]
 refine ⟨by omega, fun _ => ?_⟩
 refine zb.loop (ι := {i : Nat // i ≤ n}) (fun i => SV n i.1) (fun i => [.arr l.length 1 (natG .u8 (j7 l n i.1))]) (fun i => n - i.1) ⟨0, Nat.zero_le _⟩ 0 ?_ ?_ (by kernel_rfl)
 ·exact ⟨by simp [SV], by simp [JW, za], by kernel_rfl, Nat.le_refl _⟩
 ·rintro ⟨i, hin⟩
  obtain ⟨u, hu⟩ : ∃ u, j7 l n i = u := ⟨_, rfl⟩
  have hul : u.length = l.length := by rw [← hu, xT]
  simp only [hu, ← hul]
  refine zb.run hmix zG [0, 2, 3] 400 (T := Tree.ite (decide ((↑i : Int) < (↑n : Int) - (1 : Int) - (↑i : Int))) (Tree.side ((0 : Int) ≤ (↑n : Int) - (1 : Int) - (↑i : Int) ∧ (↑n : Int) - (1 : Int) - (↑i : Int) < (↑n : Int)) (Tree.side ((0 : Int) ≤ (↑i : Int) ∧ (↑i : Int) < (↑n : Int)) (Tree.side ((0 : Int) ≤ (↑i : Int) ∧ (↑i : Int) < (↑n : Int)) (Tree.side ((0 : Int) ≤ (↑n : Int) - (1 : Int) - (↑i : Int) ∧ (↑n : Int) - (1 : Int) - (↑i : Int) < (↑n : Int)) (Tree.side (inR IntKind.i64 ((↑i : Int) + (1 : Int))) (Tree.side (inR IntKind.i64 ((↑n : Int) - (1 : Int) - (↑i : Int) - (1 : Int))) (Tree.leaf (jQ.back (0 : Nat) [((0 : Nat), AV.osl (0 : Nat) (1 : Nat) (0 : Nat) n), ((2 : Nat), AV.int IntKind.i64 ((↑i : Int) + (1 : Int))), ((3 : Nat), AV.int IntKind.i64 ((↑n : Int) - (1 : Int) - (↑i : Int) - (1 : Int)))] [Blk.arr (List.length u) (1 : Nat) (updG (updG (natG IntKind.u8 u) ((0 : Nat) + Int.toNat (↑i : Int)) (0 : Nat) [AV.int IntKind.u8 (↑(List.getD u ((0 : Nat) + Int.toNat ((↑n : Int) - (1 : Int) - (↑i : Int))) (0 : Nat)) : Int)]) ((0 : Nat) + Int.toNat ((↑n : Int) - (1 : Int) - (↑i : Int))) (0 : Nat) [AV.int IntKind.u8 (↑(List.getD u ((0 : Nat) + Int.toNat (↑i : Int)) (0 : Nat)) : Int)])])))))))) (Tree.leaf (jQ.ret [] [Blk.arr (List.length u) (1 : Nat) (natG IntKind.u8 u)]))) (by kernel_rfl) ?_
  simp only [Tree.holds, zd, inR, lo, hi, Int.toNat_natCast]
  refine ⟨fun hlt => ?_, fun hge => ?_⟩
  ·have hlt : i < n - 1 - i := by simp at hlt; omega
   have ej : ((n : Int) - 1 - i).toNat = n - 1 - i := by omega
   rw [ej]
   iterate 6 refine ⟨by omega, fun _ => ?_⟩
   rw [if_pos trivial]
   have hs := Wu (l := l) hn hlt
   rw [hu] at hs
   refine ⟨⟨i + 1, by omega⟩, by show n - (i + 1) < n - i; omega, by simp [SV]; omega, ?_, by kernel_rfl, Nat.le_refl _⟩
   rw [← hs]
   refine ⟨⟨rfl, rfl, ?_⟩, trivial⟩
   have h1 := wJ (k := .u8) (l := u) (v := (u.getD (n - 1 - i) 0 : Nat)) (i := i) (by omega) (by omega)
   have h2 := wJ (k := .u8) (l := u.set i (u.getD (n - 1 - i) 0)) (v := (u.getD i 0 : Nat)) (i := n - 1 - i) (by omega) (by simp; omega)
   simp only [List.length_set, Int.toNat_natCast] at h1 h2
   refine xI ?_ h2
   intro p o hp ho
   have := h1 p o hp ho
   simp only [updG, Nat.zero_add] at this ⊢
   split
   ·rfl
   ·exact this
  ·have hge : n - 1 - i ≤ i := by simp at hge; omega
   have hr := K5 (l := l) hn hge
   rw [hu] at hr
   refine ⟨[0], rfl, by simp, by simp, by simp [ui, ctrT], .tup [], _, qb (by simp [resV, exp2, eqA2, eqL1]), ?_, rfl, hq⟩
   simp [expH, expB, hr, za]
   omega
def wO (neg : Bool) (x : Nat) : Blk := .box [.bool neg, magS x]
def SW (x i n : Nat) : KV := [(1, .ptr 0 0), (4, .osl 1 1 0 n), (6, .undef), (12, magS x), (13, .int .i64 ((canon x).length : Int)), (14, .int .i64 (i : Int)), (18, .undef)]
def SW2 (x i n g k : Nat) : KV := [(1, .ptr 0 0), (4, .osl 1 1 0 n), (6, .int .u32 (g : Int)), (12, magS x), (13, .int .i64 ((canon x).length : Int)), (14, .int .i64 (i : Int)), (18, .int .i64 (k : Int))]
noncomputable def G4 : Nat → Option Ctr := fun f => if f = 81 then some (ui) else none
theorem Vw : ∀ g c, G4 g = some c → ze Try.prog g c := okIf Wd (zz)
theorem uz (k : IntKind) (l : List Nat) (n : Nat) (hn : n ≤ l.length) : vG n (zh (natG k l) 0) = (l.take n).map UInt8.ofNat := by
 apply List.ext_getElem (by simp [vG]; omega)
 intro j h1 h2
 have hj : j < n := by simpa [vG] using h1
 simp [vG, zh, natG, Sx.byteOf, show j < l.length by omega]
def wb (x i : Nat) : List Nat := (decs (9 * i) (val ((canon x).take i))).map (48 + ·)
theorem ZY (x i : Nat) : (wb x i).length = 9 * i := by simp [wb, x9]
theorem Ka (i : Nat) : B ^ i = 10 ^ (9 * i) := by rw [Nat.pow_mul]
theorem YO {x i : Nat} (h : i < (canon x).length) : wb x i ++ (decs 9 ((canon x).getD i 0)).map (48 + ·) = wb x (i + 1) := by
 have h1 := zT (qY (zg x) i)
 rw [List.length_take, Nat.min_eq_left (by omega), Ka] at h1
 simp only [wb]
 rw [← List.map_append, ← yz _ _ _ _ h1, zn, Ka]
 rfl
theorem WS (x : Nat) : wb x (canon x).length = (dec x).map (48 + ·) ++ List.replicate (9 * (canon x).length - (dec x).length) 48 := by
 have h : x < 10 ^ (9 * (canon x).length) := by
  have := zT (zg x)
  rwa [zi, Ka] at this
 simp only [wb, List.take_length, zi, Y5 h, Ten.padN, List.map_append, List.map_replicate, dec]
def yL : Ctr := ctrP true (fun p : Bool × Nat => [.agg [.bool p.1, magS p.2]]) (fun p => (canon p.2).length < 1000000) (fun p r => r = wr p.1 p.2) (fun _ r => (.tup [.str r.1, .int .i64 r.2], []))
theorem Kk {O : Nat → Prop} {w0 : World} {Q : AV × Heap → Prop} {Hs : Nat → KV → Heap → Prop} (neg : Bool) (x : Nat) (hx : (canon x).length < 1000000) (hx0 : x ≠ 0) (hq : Q (.tup [.str (wr neg x).1, .int .i64 (wr neg x).2], [])) (b : List Nat) (hb : b = wb x (canon x).length) :
  zb Try.prog Try.f66 O 0 w0 [] Hs (RetR yL 0 Q) (.code (.loop (lps (inside K66 0) 1).1) :: (lps (inside K66 0) 1).2) (mk Try.f66.ntmps (SW x (canon x).length b.length) [wO neg x, .arr b.length 1 (natG .u8 b)]) := by
 have hdl := Qp hx0
 have hle : (dec x).length ≤ 9 * (canon x).length := by
  have := zT (zg x)
  rw [zi, Ka] at this
  exact yR this
 have hbl : b.length = 9 * (canon x).length := by rw [hb, ZY]
 have hget : ∀ p, p < b.length → b.getD p 0 = 48 + (dec x).getD p 0 := by
  intro p hp
  rw [hb, WS]
  by_cases h : p < (dec x).length
  ·rw [kT (by simpa using h), K1 (z := 0) h]
  ·rw [yO (by simpa using Nat.le_of_not_lt h), Yb (by simp; omega), Xi (Nat.le_of_not_lt h)]
 have htake : b.take (dec x).length = (dec x).map (48 + ·) := by
  rw [hb, WS, List.take_append_of_le_length (by simp), List.take_of_length_le (by simp)]
 refine zb.loop (ι := {n : Nat // (dec x).length ≤ n ∧ n ≤ b.length}) (fun n => SW x (canon x).length n.1) (fun _ => [wO neg x, .arr b.length 1 (natG .u8 b)]) (fun n => n.1) ⟨b.length, by omega, Nat.le_refl _⟩ 0 ?_ ?_ (by kernel_rfl)
 ·exact ⟨by simp [SW, magS, natS, za], by simp [wO, magS, natS, za], by kernel_rfl, Nat.zero_le _⟩
 ·rintro ⟨n, hn1, hn2⟩
  obtain ⟨L, hL⟩ : ∃ L, (canon x).length = L := ⟨_, rfl⟩
  simp only [hL]
  refine zb.run hmix Vw [1, 4, 6, 12, 13, 14, 18] 400 (T := Tree.side (inR IntKind.i64 ((↑n : Int) - (1 : Int))) (Tree.side ((0 : Int) ≤ (↑n : Int) - (1 : Int) ∧ (↑n : Int) - (1 : Int) < (↑n : Int)) (Tree.ite (decide ((↑(List.getD b ((0 : Nat) + Int.toNat ((↑n : Int) - (1 : Int))) (0 : Nat)) : Int) = (48 : Int))) (Tree.side (inR IntKind.i64 ((↑n : Int) - (1 : Int))) (Tree.side ((0 : Int) ≤ (↑n : Int) - (1 : Int) ∧ (↑n : Int) - (1 : Int) ≤ (↑n : Int)) (Tree.leaf (jQ.back (0 : Nat) [((1 : Nat), AV.ptr (0 : Nat) (0 : Nat)), ((4 : Nat), AV.osl (1 : Nat) (1 : Nat) (0 : Nat) (Int.toNat ((↑n : Int) - (1 : Int)) - (0 : Nat))), ((6 : Nat), AV.undef), ((12 : Nat), AV.sl (List.length (canon x)) (1 : Nat) (natG IntKind.u32 (canon x))), ((13 : Nat), AV.int IntKind.i64 (↑(List.length (canon x)) : Int)), ((14 : Nat), AV.int IntKind.i64 (↑L : Int)), ((18 : Nat), AV.undef)] [Blk.box [AV.bool neg, AV.sl (List.length (canon x)) (1 : Nat) (natG IntKind.u32 (canon x))], Blk.arr (List.length b) (1 : Nat) (natG IntKind.u8 b)])))) (Tree.ite (decide ((1000 : Int) < (↑n : Int))) (Tree.leaf (jQ.ret [AV.str (Array.toList #[]), AV.int IntKind.i64 (14 : Int)] [Blk.box [AV.bool neg, AV.sl (List.length (canon x)) (1 : Nat) (natG IntKind.u32 (canon x))], Blk.arr (List.length b) (1 : Nat) (natG IntKind.u8 b)])) (Tree.ite neg (Tree.side ((0 : Nat) = (0 : Nat) ∧ n ≤ List.length b ∧ (n + (1 : Nat)) * (1 : Nat) ≤ (140737488355328 : Nat)) (Tree.ex (fun (x : List Nat × Nat) => eqL [AV.osl (0 : Nat) (1 : Nat) (0 : Nat) (n + (1 : Nat))] [AV.osl (0 : Nat) (1 : Nat) (0 : Nat) (Prod.snd x)] ∧ eqH [Blk.arr (n + (1 : Nat)) (1 : Nat) (appG n (natG IntKind.u8 b) (zh (zc (1 : Nat) [AV.int IntKind.u8 (45 : Int)]) (0 : Nat)))] [Blk.arr (List.length (Prod.fst x)) (1 : Nat) (natG IntKind.u8 (Prod.fst x))] ∧ (1 : Nat) = (1 : Nat) ∧ Prod.snd x ≤ List.length (Prod.fst x) ∧ List.length (Prod.fst x) < (4611686018427387904 : Nat)) fun (n_1 : List Nat × Nat) => Tree.all (fun (x : Unit) => True) fun (n_2 : Unit) => Tree.side (∀ (j : Nat), j < n + (1 : Nat) → ∃ (b : UInt8), AV.int IntKind.u8 (↑(List.getD (List.reverse (List.take (Prod.snd n_1) (Prod.fst n_1)) ++ List.drop (Prod.snd n_1) (Prod.fst n_1)) ((0 : Nat) + j) (0 : Nat)) : Int) = AV.int IntKind.u8 (↑(UInt8.toNat b) : Int)) (Tree.leaf (jQ.ret [AV.str (vG (n + (1 : Nat)) (zh (natG IntKind.u8 (List.reverse (List.take (Prod.snd n_1) (Prod.fst n_1)) ++ List.drop (Prod.snd n_1) (Prod.fst n_1))) (0 : Nat))), AV.int IntKind.i64 (0 : Int)] [Blk.box [AV.bool neg, AV.sl (List.length (canon x)) (1 : Nat) (natG IntKind.u32 (canon x))], Blk.arr (List.length (Prod.fst n_1)) (1 : Nat) (natG IntKind.u8 (List.reverse (List.take (Prod.snd n_1) (Prod.fst n_1)) ++ List.drop (Prod.snd n_1) (Prod.fst n_1))), Blk.arr (1 : Nat) (1 : Nat) (zc (1 : Nat) [AV.int IntKind.u8 (45 : Int)])])))) (Tree.ex (fun (x : List Nat × Nat) => eqL [AV.osl (0 : Nat) (1 : Nat) (0 : Nat) n] [AV.osl (0 : Nat) (1 : Nat) (0 : Nat) (Prod.snd x)] ∧ eqH [Blk.arr (List.length b) (1 : Nat) (natG IntKind.u8 b)] [Blk.arr (List.length (Prod.fst x)) (1 : Nat) (natG IntKind.u8 (Prod.fst x))] ∧ (1 : Nat) = (1 : Nat) ∧ Prod.snd x ≤ List.length (Prod.fst x) ∧ List.length (Prod.fst x) < (4611686018427387904 : Nat)) fun (n_1 : List Nat × Nat) => Tree.all (fun (x : Unit) => True) fun (n_2 : Unit) => Tree.side (∀ (j : Nat), j < n → ∃ (b : UInt8), AV.int IntKind.u8 (↑(List.getD (List.reverse (List.take (Prod.snd n_1) (Prod.fst n_1)) ++ List.drop (Prod.snd n_1) (Prod.fst n_1)) ((0 : Nat) + j) (0 : Nat)) : Int) = AV.int IntKind.u8 (↑(UInt8.toNat b) : Int)) (Tree.leaf (jQ.ret [AV.str (vG n (zh (natG IntKind.u8 (List.reverse (List.take (Prod.snd n_1) (Prod.fst n_1)) ++ List.drop (Prod.snd n_1) (Prod.fst n_1))) (0 : Nat))), AV.int IntKind.i64 (0 : Int)] [Blk.box [AV.bool neg, AV.sl (List.length (canon x)) (1 : Nat) (natG IntKind.u32 (canon x))], Blk.arr (List.length (Prod.fst n_1)) (1 : Nat) (natG IntKind.u8 (List.reverse (List.take (Prod.snd n_1) (Prod.fst n_1)) ++ List.drop (Prod.snd n_1) (Prod.fst n_1)))])))))))) (by kernel_rfl) ?_
  have e1 : ((n : Int) - 1).toNat = n - 1 := by omega
  have e2 : 0 + (n - 1) = n - 1 := by omega
  have e3 : n - 1 - 0 = n - 1 := by omega
  simp only [Tree.holds, zd, inR, lo, hi, e1, e2, e3]
  have hg := hget (n - 1) (by omega)
  rw [hg]
  iterate 2 refine ⟨by omega, fun _ => ?_⟩
  refine ⟨fun hz => ?_, fun hnz => ⟨fun hbig => ?_, fun hsm => ?_⟩⟩
  ·have hz : (dec x).getD (n - 1) 0 = 0 := by simp at hz ⊢; omega
   have hne : n ≠ (dec x).length := by
    rintro rfl
    exact VH hdl hz
   iterate 2 refine ⟨by omega, fun _ => ?_⟩
   rw [if_pos trivial]
   exact ⟨⟨n - 1, by omega, by omega⟩, by show n - 1 < n; omega, by simp [SW, magS, natS, za], by simp [wO, magS, natS, za], by kernel_rfl, Nat.zero_le _⟩
  ·have hn : n = (dec x).length := by
    rcases Nat.lt_or_ge (dec x).length n with h | h
    ·have : (dec x).getD (n - 1) 0 = 0 := by simp [List.getD, List.getElem?_eq_none (show (dec x).length ≤ n - 1 by omega)]
     rw [this] at hnz; simp at hnz
    ·omega
   subst hn
   have hbig : 1000 < (dec x).length := by simp at hbig; omega
   simp only [wr, if_neg hx0, if_pos hbig] at hq
   exact RetR.scal hq rfl rfl
  ·have hn : n = (dec x).length := by
    rcases Nat.lt_or_ge (dec x).length n with h | h
    ·have : (dec x).getD (n - 1) 0 = 0 := by simp [List.getD, List.getElem?_eq_none (show (dec x).length ≤ n - 1 by omega)]
     rw [this] at hnz; simp at hnz
    ·omega
   subst hn
   have hsm : ¬ 1000 < (dec x).length := by simp at hsm; omega
   simp only [wr, if_neg hx0, if_neg hsm] at hq
   have hbyte : ∀ (l : List Nat) (k : Nat), (∀ d ∈ l, d < 256) → ∀ j, j < k → ∃ c : UInt8, AV.int .u8 ((l.getD (0 + j) 0 : Nat) : Int) = .int .u8 (c.toNat : Int) := by
    intro l k hl j hj
    rw [Nat.zero_add]
    have : l.getD j 0 < 256 := by
     by_cases h : j < l.length
     ·have := hl l[j] (List.getElem_mem h)
      simpa [List.getD, h] using this
     ·simp [List.getD, List.getElem?_eq_none (Nat.le_of_not_lt h)]
    refine ⟨UInt8.ofNat (l.getD j 0), ?_⟩
    simp only [AV.int.injEq, true_and]
    rw [UInt8.toNat_ofNat', Nat.mod_eq_of_lt this]
   have hb256 : ∀ d ∈ b, d < 256 := by
    intro d hd
    rw [hb, WS] at hd
    rcases List.mem_append.1 hd with hd | hd
    ·obtain ⟨y, hy, rfl⟩ := List.mem_map.1 hd
     have := Ten.zg x y hy
     simp only [Ten.B] at this
     omega
    ·have := (List.mem_replicate.1 hd).2; omega
   have htx : ((b.take (dec x).length).reverse).map UInt8.ofNat = txt x := by
    rw [htake, txt, if_neg hx0, List.map_reverse, List.map_map]; rfl
   refine ⟨fun hneg => ?_, fun hneg => ?_⟩
   ·subst hneg
    refine ⟨⟨trivial, hn2, by omega⟩, fun _ => ?_⟩
    have hal : (b.take (dec x).length ++ [45]).length = (dec x).length + 1 := by simp; omega
    refine ⟨(b.take (dec x).length ++ [45], (dec x).length + 1), ⟨by simp, ?_, by simp, by simp only [hal]; omega, by simp only [hal]; omega⟩, ⟨(), trivial⟩, fun _ _ => ⟨?_, fun _ => ?_⟩⟩
    ·simp only [eqH, eqB, hal]
     refine ⟨⟨trivial, trivial, ?_⟩, trivial⟩
     intro j o hj ho
     have : o = 0 := by omega
     subst this
     simp only [appG, zh, zc, natG]
     have hl : (b.take (dec x).length).length = (dec x).length := by simp; omega
     by_cases h : j < (dec x).length
     ·rw [if_pos h, kT (by omega), V5 h]
     ·have : j = (dec x).length := by omega
      subst this
      rw [if_neg (by omega), yO (by omega), hl, Nat.sub_self]
      rfl
    ·refine hbyte _ _ ?_
     intro d hd
     simp only [List.mem_append, List.mem_reverse] at hd
     rcases hd with hd | hd
     ·have := List.mem_of_mem_take hd
      rcases List.mem_append.1 this with h | h
      ·exact hb256 d (List.mem_of_mem_take h)
      ·simp at h; omega
     ·have := List.mem_of_mem_drop hd
      rcases List.mem_append.1 this with h | h
      ·exact hb256 d (List.mem_of_mem_take h)
      ·simp at h; omega
    ·refine RetR.scal hq rfl ?_
     simp only [resV]
     rw [uz _ _ _ (by simp; omega)]
     have ht : List.take ((dec x).length + 1) (b.take (dec x).length ++ [45]) = b.take (dec x).length ++ [45] := List.take_of_length_le (by omega)
     rw [ht, List.take_append_of_le_length (by simp; omega), List.take_of_length_le (by simp; omega), List.reverse_append, List.map_append, htx]
     simp [sgn]
   ·subst hneg
    refine ⟨(b, (dec x).length), ⟨by simp, by simp [za], by simp, hn2, by simp only [hbl]; omega⟩, ⟨(), trivial⟩, fun _ _ => ⟨?_, fun _ => ?_⟩⟩
    ·refine hbyte _ _ ?_
     intro d hd
     simp only [List.mem_append, List.mem_reverse] at hd
     rcases hd with hd | hd
     ·exact hb256 d (List.mem_of_mem_take hd)
     ·exact hb256 d (List.mem_of_mem_drop hd)
    ·refine RetR.scal hq rfl ?_
     simp only [resV]
     have hrl : ((b.take (dec x).length).reverse).length = (dec x).length := by simp; omega
     rw [uz _ _ _ (by rw [List.length_append, hrl]; omega), List.take_append_of_le_length (by omega), List.take_of_length_le (by omega), htx]
     simp [sgn]
theorem u2 : ze Try.prog 66 yL := by
 refine zr (fn := Try.f66) (c := Try.f66.body.getD .skip) rfl rfl rfl fun p hp O w0 Q hq => ?_
 obtain ⟨neg, x⟩ := p
 replace hq := hq _ rfl
 simp only at hp hq
 refine zb.run hmix Vw [1, 4, 6, 12, 13, 14, 18] 400 (T := Tree.ite (decide ((↑(List.length (canon x)) : Int) = (0 : Int))) (Tree.leaf (jQ.ret [AV.str (Array.toList #[(48 : UInt8)]), AV.int IntKind.i64 (0 : Int)] [Blk.box [AV.bool neg, AV.sl (List.length (canon x)) (1 : Nat) (natG IntKind.u32 (canon x))]])) (Tree.leaf (jQ.loop (Prod.fst (lps K66 (0 : Nat))) (Prod.snd (lps K66 (0 : Nat))) [((1 : Nat), AV.ptr (0 : Nat) (0 : Nat)), ((4 : Nat), AV.nils), ((6 : Nat), AV.undef), ((12 : Nat), AV.sl (List.length (canon x)) (1 : Nat) (natG IntKind.u32 (canon x))), ((13 : Nat), AV.int IntKind.i64 (↑(List.length (canon x)) : Int)), ((14 : Nat), AV.int IntKind.i64 (0 : Int)), ((18 : Nat), AV.undef)] [Blk.box [AV.bool neg, AV.sl (List.length (canon x)) (1 : Nat) (natG IntKind.u32 (canon x))]]))) (by kernel_rfl) ?_
 simp only [Tree.holds, zd, inR, lo, hi]
 refine ⟨fun h0 => ?_, fun h0 => ?_⟩
 ·have h0 : x = 0 := by
   rcases Nat.eq_zero_or_pos x with h | h
   ·exact h
   ·have := jc (x := x) (n := 0) (by simp; omega)
    simp at h0; rw [h0] at this; simp at this
  subst h0
  refine RetR.scal hq rfl ?_
  simp [resV, wr]
 ·have hx0 : x ≠ 0 := by
   rintro rfl
   simp [z6] at h0
  refine zb.bear 4 1 (natG .u8 []) (by kernel_rfl) (by decide +kernel) (by kernel_rfl) ?_
  refine zb.loop (ι := {i : Nat // i ≤ (canon x).length}) (fun i => SW x i.1 (wb x i.1).length) (fun i => [wO neg x, .arr (wb x i.1).length 1 (natG .u8 (wb x i.1))]) (fun i => (canon x).length - i.1) ⟨0, Nat.zero_le _⟩ 0 ?_ ?_ (by kernel_rfl)
  ·exact ⟨by simp [Z9, SW, magS, natS, za, ZY], by simp [wO, magS, natS, za, ZY, eqG], by kernel_rfl, Nat.zero_le _⟩
  ·rintro ⟨i, hil⟩
   obtain ⟨b, hb⟩ : ∃ b, wb x i = b := ⟨_, rfl⟩
   simp only [hb]
   refine zb.run hmix Vw [1, 4, 6, 12, 13, 14, 18] 400 (T := Tree.ite (decide ((↑i : Int) < (↑(List.length (canon x)) : Int))) (Tree.side ((0 : Int) ≤ (↑i : Int) ∧ (↑i : Int) < (↑(List.length (canon x)) : Int)) (Tree.leaf (jQ.loop (Prod.fst (lps (inside K66 (0 : Nat)) (0 : Nat))) (Prod.snd (lps (inside K66 (0 : Nat)) (0 : Nat))) [((1 : Nat), AV.ptr (0 : Nat) (0 : Nat)), ((4 : Nat), AV.osl (1 : Nat) (1 : Nat) (0 : Nat) (List.length b)), ((6 : Nat), AV.int IntKind.u32 (↑(List.getD (canon x) (Int.toNat (↑i : Int)) (0 : Nat)) : Int)), ((12 : Nat), AV.sl (List.length (canon x)) (1 : Nat) (natG IntKind.u32 (canon x))), ((13 : Nat), AV.int IntKind.i64 (↑(List.length (canon x)) : Int)), ((14 : Nat), AV.int IntKind.i64 (↑i : Int)), ((18 : Nat), AV.int IntKind.i64 (0 : Int))] [Blk.box [AV.bool neg, AV.sl (List.length (canon x)) (1 : Nat) (natG IntKind.u32 (canon x))], Blk.arr (List.length b) (1 : Nat) (natG IntKind.u8 b)]))) (Tree.leaf (jQ.loop (Prod.fst (lps (inside K66 (0 : Nat)) (1 : Nat))) (Prod.snd (lps (inside K66 (0 : Nat)) (1 : Nat))) [((1 : Nat), AV.ptr (0 : Nat) (0 : Nat)), ((4 : Nat), AV.osl (1 : Nat) (1 : Nat) (0 : Nat) (List.length b)), ((6 : Nat), AV.undef), ((12 : Nat), AV.sl (List.length (canon x)) (1 : Nat) (natG IntKind.u32 (canon x))), ((13 : Nat), AV.int IntKind.i64 (↑(List.length (canon x)) : Int)), ((14 : Nat), AV.int IntKind.i64 (↑i : Int)), ((18 : Nat), AV.undef)] [Blk.box [AV.bool neg, AV.sl (List.length (canon x)) (1 : Nat) (natG IntKind.u32 (canon x))], Blk.arr (List.length b) (1 : Nat) (natG IntKind.u8 b)]))) (by kernel_rfl) ?_
   simp only [Tree.holds, zd, inR, lo, hi, Int.toNat_natCast]
   refine ⟨fun hlt => ⟨by simp at hlt; omega, fun _ => ?_⟩, fun hge => ?_⟩
   ·have hlt : i < (canon x).length := by simp at hlt; omega
    obtain ⟨g, hg⟩ : ∃ g, (canon x).getD i 0 = g := ⟨_, rfl⟩
    have hgB : g < 1000000000 := hg ▸ zA (zg x) i
    have hstep := YO hlt
    have hbl : b.length = 9 * i := by rw [← hb, ZY]
    rw [hb, hg] at hstep
    rw [hg]
    refine zb.loop (ι := {k : Nat // k ≤ 9}) (fun k => SW2 x i (b ++ (decs k.1 g).map (48 + ·)).length (g / 10 ^ k.1) k.1) (fun k => [wO neg x, .arr (b ++ (decs k.1 g).map (48 + ·)).length 1 (natG .u8 (b ++ (decs k.1 g).map (48 + ·)))]) (fun k => 9 - k.1) ⟨0, Nat.zero_le _⟩ 1 ?_ ?_ (by kernel_rfl)
    ·exact ⟨by simp [SW2, magS, natS, za, decs], by simp [wO, magS, natS, za, decs], by kernel_rfl, Nat.zero_le _⟩
    ·rintro ⟨k, hk⟩
     obtain ⟨c, hc⟩ : ∃ c, b ++ (decs k g).map (48 + ·) = c := ⟨_, rfl⟩
     obtain ⟨q, hqv⟩ : ∃ q, g / 10 ^ k = q := ⟨_, rfl⟩
     have hqB : q < 1000000000 := by rw [← hqv]; exact Nat.lt_of_le_of_lt (Nat.div_le_self _ _) hgB
     have hcl : c.length = 9 * i + k := by rw [← hc]; simp [x9, hbl]
     have hnext : b ++ (decs (k + 1) g).map (48 + ·) = c ++ [48 + q % 10] := by
      rw [Zx, List.map_append, ← List.append_assoc, hc, hqv]; rfl
     have hqn : g / 10 ^ (k + 1) = q / 10 := by rw [Nat.pow_succ, ← Nat.div_div_eq_div_mul, hqv]
     simp only [hc, hqv]
     refine zb.run hmix Vw [1, 4, 6, 12, 13, 14, 18] 400 (T := Tree.ite (decide ((↑k : Int) < (9 : Int))) (Tree.side ((10 : Int) ≠ (0 : Int)) (Tree.side (inR IntKind.u32 ((48 : Int) + Int.tmod (↑q : Int) (10 : Int))) (Tree.side (inR IntKind.u8 ((48 : Int) + Int.tmod (↑q : Int) (10 : Int))) (Tree.side ((0 : Nat) = (0 : Nat) ∧ List.length c ≤ List.length c ∧ (List.length c + (1 : Nat)) * (1 : Nat) ≤ (140737488355328 : Nat)) (Tree.side ((10 : Int) ≠ (0 : Int) ∧ inR IntKind.u32 (Int.tdiv (↑q : Int) (10 : Int))) (Tree.side (inR IntKind.i64 ((↑k : Int) + (1 : Int))) (Tree.leaf (jQ.back (1 : Nat) [((1 : Nat), AV.ptr (0 : Nat) (0 : Nat)), ((4 : Nat), AV.osl (1 : Nat) (1 : Nat) (0 : Nat) (List.length c + (1 : Nat))), ((6 : Nat), AV.int IntKind.u32 (Int.tdiv (↑q : Int) (10 : Int))), ((12 : Nat), AV.sl (List.length (canon x)) (1 : Nat) (natG IntKind.u32 (canon x))), ((13 : Nat), AV.int IntKind.i64 (↑(List.length (canon x)) : Int)), ((14 : Nat), AV.int IntKind.i64 (↑i : Int)), ((18 : Nat), AV.int IntKind.i64 ((↑k : Int) + (1 : Int)))] [Blk.box [AV.bool neg, AV.sl (List.length (canon x)) (1 : Nat) (natG IntKind.u32 (canon x))], Blk.arr (List.length c + (1 : Nat)) (1 : Nat) (appG (List.length c) (natG IntKind.u8 c) (zh (zc (1 : Nat) [AV.int IntKind.u8 ((48 : Int) + Int.tmod (↑q : Int) (10 : Int))]) (0 : Nat))), Blk.arr (1 : Nat) (1 : Nat) (zc (1 : Nat) [AV.int IntKind.u8 ((48 : Int) + Int.tmod (↑q : Int) (10 : Int))])])))))))) (Tree.side (inR IntKind.i64 ((↑i : Int) + (1 : Int))) (Tree.leaf (jQ.back (0 : Nat) [((1 : Nat), AV.ptr (0 : Nat) (0 : Nat)), ((4 : Nat), AV.osl (1 : Nat) (1 : Nat) (0 : Nat) (List.length c)), ((6 : Nat), AV.int IntKind.u32 (↑q : Int)), ((12 : Nat), AV.sl (List.length (canon x)) (1 : Nat) (natG IntKind.u32 (canon x))), ((13 : Nat), AV.int IntKind.i64 (↑(List.length (canon x)) : Int)), ((14 : Nat), AV.int IntKind.i64 ((↑i : Int) + (1 : Int))), ((18 : Nat), AV.int IntKind.i64 (↑k : Int))] [Blk.box [AV.bool neg, AV.sl (List.length (canon x)) (1 : Nat) (natG IntKind.u32 (canon x))], Blk.arr (List.length c) (1 : Nat) (natG IntKind.u8 c)])))) (by kernel_rfl) ?_
     have e10 : (10 : Int) = ((10 : Nat) : Int) := rfl
     have em : Int.tmod (q : Int) 10 = ((q % 10 : Nat) : Int) := by rw [e10, Vo]
     have ed : Int.tdiv (q : Int) 10 = ((q / 10 : Nat) : Int) := by rw [e10, VL]
     simp only [Tree.holds, zd, inR, lo, hi, em, ed]
     refine ⟨fun hlt2 => ?_, fun hge2 => ?_⟩
     ·have hlt2 : k < 9 := by simp at hlt2; omega
      refine ⟨by decide, fun _ => ⟨by omega, fun _ => ⟨by omega, fun _ => ⟨⟨trivial, Nat.le_refl _, by omega⟩, fun _ => ⟨⟨by decide, by omega, by omega⟩, fun _ => ⟨by omega, fun _ => ?_⟩⟩⟩⟩⟩⟩
      rw [if_pos trivial]
      refine ⟨⟨k + 1, by omega⟩, by show 9 - (k + 1) < 9 - k; omega, ?_, ?_, by kernel_rfl, Nat.zero_le _⟩
      ·simp [SW2, hnext, hqn, magS, natS, za]
      ·simp only [hnext]
       refine ⟨by simp [wO, magS, natS, za], ⟨by simp, rfl, ?_⟩, trivial⟩
       have := xq (k := .u8) (l := c) (v := 48 + ((q % 10 : Nat) : Int)) (by omega)
       rw [show (48 + ((q % 10 : Nat) : Int)).toNat = 48 + q % 10 by omega] at this
       exact this
     ·have hge2 : k = 9 := by simp at hge2; omega
      subst hge2
      refine ⟨by omega, fun _ => ?_⟩
      rw [if_neg (by decide), if_pos trivial]
      have hcw : c = wb x (i + 1) := by rw [← hc, hstep]
      exact ⟨⟨i + 1, hlt⟩, by show _ - (i + 1) < _ - i; omega, by simp [SW, hcw, magS, natS, za], by simp [hcw, wO, magS, natS, za], by kernel_rfl, Nat.zero_le _⟩
   ·have hge : i = (canon x).length := by simp at hge; omega
    subst hge
    exact Kk neg x hp hx0 hq b hb.symm
end Go.Proofs.Try
end

/- The integers' texts: Check, pair, Gcd. -/
section
set_option maxRecDepth 100000
open Go Go.Sx Go.Proofs Go.Nov
namespace Go.Proofs.Try
attribute [local simp] eqKV eqA eqA0 eqH eqB eqL eqL0
noncomputable def K53 : List Go.Sx.Item := [.code (Try.f53.body.getD .skip)]
noncomputable def K54 : List Go.Sx.Item := [.code (Try.f54.body.getD .skip)]
theorem Jn (c : UInt8) : (if decide ((c.toNat : Int) < 48) = true then true else decide (57 < (c.toNat : Int))) = !isD c := by
 simp only [isD]
 by_cases h : c.toNat < 48
 ·rw [if_pos (by simp; omega)]; simp; omega
 ·rw [if_neg (by simp; omega)]
  by_cases h2 : c.toNat ≤ 57
  ·have : decide (57 < (c.toNat : Int)) = false := by simp; omega
   rw [this]; simp; omega
  ·have : decide (57 < (c.toNat : Int)) = true := by simp; omega
   rw [this]; simp; omega
def uP : Ctr := ctrP true (fun s : List UInt8 => [.str s]) (fun s => s.length < 2 ^ 62) (fun s r => r = errI s) (fun _ r => (.int .i64 r, []))
def SCk (b : List UInt8) (i : Nat) : KV := [(3, .str b), (31, .int .i64 (b.length : Int)), (32, .int .i64 (i : Int)), (40, .undef), (41, .undef), (42, .undef), (43, .undef)]
theorem uW {O : Nat → Prop} {w0 : World} {Q : AV × Heap → Prop} {neg : Bool} (b : List UInt8) (hb : b.length < 2 ^ 62) (hf : b.all isD = true → j6 neg b = true)
  (hq : Q (.int .i64 (if j6 neg b then (if 1000 < b.length then 14 else 0) else 12), [])) :
  zb Try.prog Try.f53 O 0 w0 [] (fun _ _ _ => False) (RetR uP 0 Q) (.code (.loop (lps K53 0).1) :: (lps K53 0).2) (mk Try.f53.ntmps (SCk b 0) []) := by
 refine zb.loop (ι := {i : Nat // i ≤ b.length ∧ ∀ j, j < i → isD (b.getD j 0) = true}) (fun i => SCk b i.1) (fun _ => []) (fun i => b.length - i.1) ⟨0, Nat.zero_le _, fun j hj => by omega⟩ 0 ?_ ?_ (by kernel_rfl)
 ·exact ⟨by simp [SCk], by simp, by kernel_rfl, Nat.zero_le _⟩
 ·rintro ⟨i, hil, hid⟩
  refine zb.run hmix zG [3, 31, 32, 40, 41, 42, 43] 400 (T := .ite (decide ((↑i : Int) < b.length)) (.side ((0 : Int) ≤ i ∧ (↑i : Int) < b.length) (.side (decide ((↑(UInt8.toNat (List.getD b (Int.toNat (↑i : Int)) (0 : UInt8))) : Int) < 48) = false → (0 : Int) ≤ i ∧ (↑i : Int) < b.length) (.ite (bif decide ((↑(UInt8.toNat (List.getD b (Int.toNat (↑i : Int)) (0 : UInt8))) : Int) < 48) then true else decide ((57 : Int) < (↑(UInt8.toNat (List.getD b (Int.toNat (↑i : Int)) (0 : UInt8))) : Int))) (.leaf (.ret [.int .i64 12] [])) (.side (inR .i64 ((↑i : Int) + (1 : Int))) (.leaf (.back 0 [(3, .str b), (31, .int .i64 b.length), (32, .int .i64 ((↑i : Int) + (1 : Int))), (40, .undef), (41, .undef), (42, .undef), (43, .undef)] [])))))) (.ite (decide ((1000 : Int) < b.length)) (.leaf (.ret [.int .i64 14] [])) (.leaf (.ret [.int .i64 0] [])))) (by kernel_rfl) ?_
  simp only [Tree.holds, zd, inR, lo, hi, Int.toNat_natCast, Bool.cond_eq_ite]
  refine ⟨fun hlt => ?_, fun hge => ⟨fun hbig => ?_, fun hsm => ?_⟩⟩
  ·have hlt : i < b.length := by simp at hlt; omega
   refine ⟨by omega, fun _ => ⟨fun _ => by omega, fun _ => ⟨fun hbad => ?_, fun hgood => ⟨by omega, fun _ => ?_⟩⟩⟩⟩
   ·have hnd : isD (b.getD i 0) = false := by
     rw [Jn] at hbad
     simpa using hbad
    have hnf : j6 neg b = false := by
     have : b.all isD = false := by
      rw [List.all_eq_false]
      refine ⟨b.getD i 0, by simp [List.getD, hlt], by simpa using hnd⟩
     simp [j6, this]
    rw [hnf] at hq
    exact RetR.scal hq rfl (by simp [resV])
   ·have hd : isD (b.getD i 0) = true := by
     rw [Jn] at hgood
     simpa using hgood
    rw [if_pos trivial]
    refine ⟨⟨i + 1, hlt, fun j hj => ?_⟩, by show b.length - (i + 1) < b.length - i; omega, by simp [SCk], by simp, by kernel_rfl, Nat.zero_le _⟩
    rcases Nat.lt_or_ge j i with h | h
    ·exact hid j h
    ·have : j = i := by omega
     subst this; exact hd
  all_goals
   have hge : i = b.length := by simp at hge; omega
   have hall : b.all isD = true := by
    rw [List.all_eq_true]
    intro c hc
    obtain ⟨j, hj, rfl⟩ := List.getElem_of_mem hc
    have := hid j (by omega)
    simpa [List.getD, hj] using this
   rw [hf hall] at hq
  ·rw [if_pos rfl, if_pos (by simp at hbig; omega)] at hq
   exact RetR.scal hq rfl (by simp [resV])
  ·rw [if_pos rfl, if_neg (by simp at hsm; omega)] at hq
   exact RetR.scal hq rfl (by simp [resV])
theorem u5 : ze Try.prog 53 uP := by
 refine zr (fn := Try.f53) (c := Try.f53.body.getD .skip) rfl rfl rfl fun s hs O w0 Q hq => ?_
 replace hq := hq _ rfl
 refine zb.run hmix zG [3, 31, 32, 40, 41, 42, 43] 400 (T := .side (decide ((0 : Int) < s.length) = true → (0 : Int) ≤ 0 ∧ (0 : Int) < s.length) (.ite (bif decide ((0 : Int) < s.length) then decide ((↑(UInt8.toNat (List.getD s 0 (0 : UInt8))) : Int) = 45) else false) (.side ((0 : Int) ≤ 1 ∧ (1 : Int) ≤ s.length) (.ite (decide (List.drop 1 (List.take s.length s) = Array.toList #[(48 : UInt8)])) (.leaf (.ret [.int .i64 12] [])) (.side (decide (List.drop 1 (List.take s.length s) = Array.toList #[]) = false → (0 : Int) ≤ 0 ∧ (0 : Int) < (↑(List.length (List.drop 1 (List.take s.length s))) : Int)) (.ite (bif decide (List.drop 1 (List.take s.length s) = Array.toList #[]) then true else bif decide ((↑(UInt8.toNat (List.getD (List.drop 1 (List.take s.length s)) 0 (0 : UInt8))) : Int) = 48) then decide ((1 : Int) < (↑(List.length (List.drop 1 (List.take s.length s))) : Int)) else false) (.leaf (.ret [.int .i64 12] [])) (.leaf (.loop (Prod.fst (lps K53 0)) (Prod.snd (lps K53 0)) [(3, .str (List.drop 1 (List.take s.length s))), (31, .int .i64 (↑(List.length (List.drop 1 (List.take s.length s))) : Int)), (32, .int .i64 0), (40, .undef), (41, .undef), (42, .undef), (43, .undef)] [])))))) (.side (decide (s = Array.toList #[]) = false → (0 : Int) ≤ 0 ∧ (0 : Int) < s.length) (.ite (bif decide (s = Array.toList #[]) then true else bif decide ((↑(UInt8.toNat (List.getD s 0 (0 : UInt8))) : Int) = 48) then decide ((1 : Int) < s.length) else false) (.leaf (.ret [.int .i64 12] [])) (.leaf (.loop (Prod.fst (lps K53 0)) (Prod.snd (lps K53 0)) [(3, .str s), (31, .int .i64 s.length), (32, .int .i64 0), (40, .undef), (41, .undef), (42, .undef), (43, .undef)] [])))))) (by kernel_rfl) ?_
 simp only [Tree.holds, zd, inR, lo, hi, Bool.cond_eq_ite]
 cases s with
 | nil =>
  simp only [errI, parse, j6] at hq
  refine ⟨by simp, fun _ => ⟨fun h => by simp at h, fun _ => ⟨by simp, fun _ => ⟨fun _ => ?_, fun h => by simp at h⟩⟩⟩⟩
  exact RetR.scal hq rfl (by simp [resV])
 | cons c b =>
  refine ⟨by simp, fun _ => ⟨fun h => ?_, fun h => ?_⟩⟩
  ·have hc : c = 45 := by
    simp at h
    have : c.toNat = 45 := by omega
    exact UInt8.toNat_inj.1 this
   subst hc
   have hp : parse (45 :: b) = (true, b) := rfl
   have hd : List.drop 1 (List.take (45 :: b).length (45 :: b)) = b := by simp
   rw [hd]
   simp only [errI, hp] at hq
   refine ⟨by simp; omega, fun _ => ⟨fun h0 => ?_, fun h0 => ⟨fun hne => ?_, fun _ => ⟨fun hbad => ?_, fun hgood => ?_⟩⟩⟩⟩
   ·have hb : b = [48] := by simpa using h0
    subst hb
    exact RetR.scal hq rfl rfl
   ·have : b ≠ [] := by simpa using hne
    have := List.length_pos_iff.2 this
    omega
   ·have hnf : j6 true b = false := by
     by_cases hb : b = []
     ·subst hb; rfl
     ·rw [if_neg (by simpa using hb)] at hbad
      split at hbad
      ·rename_i h48
       have : b.getD 0 0 = 48 := V4 (of_decide_eq_true h48)
       have hl : 1 < b.length := by simp at hbad; omega
       exact vf this hl
      ·cases hbad
    rw [hnf] at hq
    exact RetR.scal hq rfl (by simp [resV])
   ·have hf : b.all isD = true → j6 true b = true := by
     intro hall
     have hb : b ≠ [] := by
      intro hb; subst hb; simp at hgood
     have hb2 : b ≠ [48] := by simpa using h0
     rw [if_neg (by simpa using hb)] at hgood
     have h3 : ¬ (b.getD 0 0 = 48 ∧ 1 < b.length) := by
      rintro ⟨g1, g2⟩
      rw [g1] at hgood
      rw [if_pos (by decide)] at hgood
      simp at hgood; omega
     simp only [j6, hall, hb, hb2, Bool.and_true]
     simp only [decide_false, Bool.not_false, Bool.and_false, Bool.true_and, Bool.not_eq_true', Bool.and_eq_false_iff, decide_eq_false_iff_not]
     by_cases g1 : b.getD 0 0 = 48
     ·exact .inr fun g2 => h3 ⟨g1, g2⟩
     ·exact .inl g1
    exact uW b (by simp at hs; omega) hf hq
  ·have hc : c ≠ 45 := by
    rintro rfl
    simp at h
   have hp : parse (c :: b) = (false, c :: b) := by simp [parse, hc]
   simp only [errI, hp] at hq
   obtain ⟨s, hs'⟩ : ∃ s, c :: b = s := ⟨_, rfl⟩
   have hne : s ≠ [] := by rw [← hs']; simp
   rw [hs'] at hq hs ⊢
   refine ⟨fun _ => ⟨by omega, by have := List.length_pos_iff.2 hne; omega⟩, fun _ => ⟨fun hbad => ?_, fun hgood => ?_⟩⟩
   ·have hnf : j6 false s = false := by
     rw [if_neg (by simpa using hne)] at hbad
     split at hbad
     ·rename_i h48
      have : s.getD 0 0 = 48 := V4 (of_decide_eq_true h48)
      have hl : 1 < s.length := by simp at hbad; omega
      exact vf this hl
     ·cases hbad
    rw [hnf] at hq
    exact RetR.scal hq rfl (by simp [resV])
   ·have hf : s.all isD = true → j6 false s = true := by
     intro hall
     rw [if_neg (by simpa using hne)] at hgood
     have h3 : ¬ (s.getD 0 0 = 48 ∧ 1 < s.length) := by
      rintro ⟨g1, g2⟩
      rw [g1] at hgood
      rw [if_pos (by decide)] at hgood
      simp at hgood; omega
     simp only [j6, hall, hne, Bool.and_true]
     simp only [decide_false, Bool.not_false, Bool.false_and, Bool.true_and, Bool.not_eq_true', Bool.and_eq_false_iff, decide_eq_false_iff_not]
     by_cases g1 : s.getD 0 0 = 48
     ·exact .inr fun g2 => h3 ⟨g1, g2⟩
     ·exact .inl g1
    exact uW s hs hf hq
def numV (neg : Bool) (x : Nat) : AV := .agg [.bool neg, magS x]
def yu : Ctr := ctrP false (fun p : List UInt8 × List UInt8 => [.str p.1, .str p.2]) (fun p => p.1.length < 2 ^ 62 ∧ p.2.length < 2 ^ 62) (fun p (r : Int × (Bool × Nat) × (Bool × Nat)) => r = if zp p.1 p.2 = 0 then (0, (negI p.1, numI p.1), (negI p.2, numI p.2)) else (zp p.1 p.2, (false, 0), (false, 0)))
 (fun _ r => (.tup [numV r.2.1.1 r.2.1.2, numV r.2.2.1 r.2.2.2, .int .i64 r.1], []))
noncomputable def G5 : Nat → Option Ctr := fun f => if f = 53 then some (uP) else if f = 80 then some (X1) else none
theorem zb0 : ∀ g c, G5 g = some c → ze Try.prog g c := okIf u5 (okIf Ud (zz))
theorem UB : canon 0 = [] := by simp [canon]
theorem Qy : ze Try.prog 65 yu := by
 refine zr (fn := Try.f65) (c := Try.f65.body.getD .skip) rfl rfl rfl fun p hp O w0 Q hq => ?_
 obtain ⟨s, t⟩ := p
 obtain ⟨hs, ht⟩ := hp
 replace hq := hq _ rfl
 simp only at hs ht hq
 refine zb.run hmix zb0 [] 400 (T := .ex (fun (x : List UInt8) => eqL [AV.str s] [AV.str x] ∧ x.length < 4611686018427387904) fun n => .all (fun (r : Int) => r = errI n) fun n => .ite (decide (n = 0)) (.ex (fun (x : List UInt8) => eqL [AV.str t] [AV.str x] ∧ x.length < 4611686018427387904) fun n => .all (fun (r : Int) => r = errI n) fun n => .ite (!decide (n = 0)) (.leaf (.ret [.agg [.bool false, .nils], .agg [.bool false, .nils], .int .i64 n] [.box [.bool false, .nils], .box [.bool false, .nils]])) (.ex (fun (x : Bool × List UInt8) => eqL [AV.str s] [AV.str (sgn x.1 x.2)] ∧ allD x.2 ∧ x.2 ≠ [] ∧ x.2.length ≤ 1000000) fun n => .all (fun (r : Nat) => r = numD n.2) fun n_1 => .ex (fun (x : Bool × List UInt8) => eqL [AV.str t] [AV.str (sgn x.1 x.2)] ∧ allD x.2 ∧ x.2 ≠ [] ∧ x.2.length ≤ 1000000) fun n_2 => .all (fun (r : Nat) => r = numD n_2.2) fun n_3 => .leaf (.ret [.agg [.bool n.1, .sl (canon n_1).length 1 (natG .u32 (canon n_1))], .agg [.bool n_2.1, .sl (canon n_3).length 1 (natG .u32 (canon n_3))], .int .i64 0] [.box [.bool n.1, .sl (canon n_1).length 1 (natG .u32 (canon n_1))], .box [.bool n_2.1, .sl (canon n_3).length 1 (natG .u32 (canon n_3))]]))) (.ite (!decide (n = 0)) (.leaf (.ret [.agg [.bool false, .nils], .agg [.bool false, .nils], .int .i64 n] [.box [.bool false, .nils], .box [.bool false, .nils]])) (.ex (fun (x : Bool × List UInt8) => eqL [AV.str s] [AV.str (sgn x.1 x.2)] ∧ allD x.2 ∧ x.2 ≠ [] ∧ x.2.length ≤ 1000000) fun n => .all (fun (r : Nat) => r = numD n.2) fun n_1 => .ex (fun (x : Bool × List UInt8) => eqL [AV.str t] [AV.str (sgn x.1 x.2)] ∧ allD x.2 ∧ x.2 ≠ [] ∧ x.2.length ≤ 1000000) fun n_2 => .all (fun (r : Nat) => r = numD n_2.2) fun n_3 => .leaf (.ret [.agg [.bool n.1, .sl (canon n_1).length 1 (natG .u32 (canon n_1))], .agg [.bool n_2.1, .sl (canon n_3).length 1 (natG .u32 (canon n_3))], .int .i64 0] [.box [.bool n.1, .sl (canon n_1).length 1 (natG .u32 (canon n_1))], .box [.bool n_2.1, .sl (canon n_3).length 1 (natG .u32 (canon n_3))]])))) (by kernel_rfl) ?_
 have bad : ∀ h, zp s t ≠ 0 → RetR yu 0 Q [.agg [.bool false, .nils], .agg [.bool false, .nils], .int .i64 (zp s t)] h := by
  intro h he
  rw [if_neg he] at hq
  refine RetR.out0 hq (fun h => by simp [yu, ctrP] at h) ?_
  simp [resV, exp2, exp1, exp0, ren0, eqA2, eqL1, eqA, eqL0, eqA0, numV, magS, natS, UB]
 have good : ∀ h, zp s t = 0 → RetR yu 0 Q [.agg [.bool (negI s), magS (numI s)], .agg [.bool (negI t), magS (numI t)], .int .i64 0] h := by
  intro h he
  rw [if_pos he] at hq
  refine RetR.out0 hq (fun h => by simp [yu, ctrP] at h) ?_
  simp [resV, exp2, exp1, exp0, ren0, eqA2, eqL1, eqA, eqL0, eqA0, numV, magS, natS, za]
 have rd : ∀ u, errI u = 0 → eqL [AV.str u] [AV.str (sgn (negI u) (parse u).2)] ∧ allD (parse u).2 ∧ (parse u).2 ≠ [] ∧ (parse u).2.length ≤ 1000000 := by
  intro u hu
  obtain ⟨h1, h2, h3, h4⟩ := u1 hu
  exact ⟨by simpa using h1, h2, h3, by omega⟩
 simp only [Tree.holds, zd]
 refine ⟨s, ⟨by simp, by omega⟩, ?_⟩
 refine ⟨⟨_, rfl⟩, ?_⟩
 rintro _ rfl
 refine ⟨fun h1 => ?_, fun h1 => ?_⟩
 ·have h1 : errI s = 0 := by simpa using h1
  refine ⟨t, ⟨by simp, by omega⟩, ?_⟩
  refine ⟨⟨_, rfl⟩, ?_⟩
  rintro _ rfl
  refine ⟨fun h2 => ?_, fun h2 => ?_⟩
  ·have h2 : errI t ≠ 0 := by simpa using h2
   have e : zp s t = errI t := by simp [zp, h1]
   rw [← e]
   exact bad _ (by rw [e]; exact h2)
  ·have h2 : errI t = 0 := by simpa using h2
   refine ⟨(negI s, (parse s).2), rd s h1, ?_⟩
   refine ⟨⟨_, rfl⟩, ?_⟩
   rintro _ rfl
   refine ⟨(negI t, (parse t).2), rd t h2, ?_⟩
   refine ⟨⟨_, rfl⟩, ?_⟩
   rintro _ rfl
   exact good _ (zl.2 ⟨h1, h2⟩)
 ·have h1 : errI s ≠ 0 := by simpa using h1
  have e : zp s t = errI s := by simp [zp, h1]
  refine ⟨fun h2 => ?_, fun h2 => absurd (by simpa using h2) h1⟩
  rw [← e]
  exact bad _ (by rw [e]; exact h1)
noncomputable def G6 : Nat → Option Ctr := fun f => if f = 65 then some (yu) else if f = 71 then some (xd) else if f = 66 then some (yL) else none
theorem U4 : ∀ g c, G6 g = some c → ze Try.prog g c := okIf Qy (okIf ZO (okIf u2 (zz)))
def gcdC : Ctr := ctrP true (fun p : List UInt8 × List UInt8 => [.str p.1, .str p.2]) (fun p => p.1.length < 2 ^ 62 ∧ p.2.length < 2 ^ 62) (fun p r => r = gcdR p.1 p.2) (fun _ r => (.tup [.str r.1, .int .i64 r.2], []))
def SGc : KV := [(6, .ptr 0 0), (7, .ptr 1 0)]
def HGc (m n : Bool) (x y : Nat) : Heap := [.box [.bool m, magS x], .box [.bool n, magS y]]
theorem jm {x : Nat} : x < B ^ 112 ↔ (canon x).length ≤ 112 := by
 refine ⟨fun h => zq h, fun h => ?_⟩
 have h1 := zT (zg x)
 rw [zi] at h1
 exact Nat.lt_of_lt_of_le h1 (Nat.pow_le_pow_right (by decide) h)
theorem kB {x : Nat} : (canon x).length = 0 ↔ x = 0 := by
 constructor
 ·intro h
  have := zi x
  rw [List.length_eq_zero_iff.1 h] at this
  exact this.symm
 ·rintro rfl; simp [canon]
theorem KN : ze Try.prog 54 gcdC := by
 refine zr (fn := Try.f54) (c := Try.f54.body.getD .skip) rfl rfl rfl fun p hp O w0 Q hq => ?_
 obtain ⟨s, t⟩ := p
 obtain ⟨hs, ht⟩ := hp
 replace hq := hq _ rfl
 simp only at hs ht hq
 refine zb.run hmix U4 [6, 7] 400 (T := .ex (fun (x : List UInt8 × List UInt8) => eqL [AV.str s, AV.str t] [AV.str x.1, AV.str x.2] ∧ x.1.length < 4611686018427387904 ∧ x.2.length < 4611686018427387904) fun n => .all (fun (r : Int × (Bool × Nat) × Bool × Nat) => r = if zp n.1 n.2 = 0 then ((0 : Int), (negI n.1, numI n.1), negI n.2, numI n.2) else (zp n.1 n.2, (false, 0), false, 0)) fun n => .ite (!decide (n.1 = 0)) (.leaf (.ret [.str (Array.toList #[]), .int .i64 n.1] [.box [.bool (Prod.fst (n.2.1)), .sl (List.length (canon (Prod.snd (n.2.1)))) 1 (natG .u32 (canon (Prod.snd (n.2.1))))], .box [.bool (Prod.fst (n.2.2)), .sl (List.length (canon (Prod.snd (n.2.2)))) 1 (natG .u32 (canon (Prod.snd (n.2.2))))]])) (.leaf (.loop (Prod.fst (lps K54 0)) (Prod.snd (lps K54 0)) [(6, .ptr 0 0), (7, .ptr 1 0)] [.box [.bool (Prod.fst (n.2.1)), .sl (List.length (canon (Prod.snd (n.2.1)))) 1 (natG .u32 (canon (Prod.snd (n.2.1))))], .box [.bool (Prod.fst (n.2.2)), .sl (List.length (canon (Prod.snd (n.2.2)))) 1 (natG .u32 (canon (Prod.snd (n.2.2))))]]))) (by kernel_rfl) ?_
 simp only [Tree.holds, zd]
 refine ⟨(s, t), ⟨by simp, hs, ht⟩, ⟨_, rfl⟩, ?_⟩
 rintro _ rfl
 refine ⟨fun he => ?_, fun he => ?_⟩
 ·have he : zp s t ≠ 0 := by
   intro h; simp [h] at he
  have e : gcdR s t = ([], zp s t) := by simp [gcdR, he]
  simp only [if_neg he]
  rw [e] at hq
  exact RetR.scal hq rfl (by simp [resV])
 ·have he : zp s t = 0 := by
   refine Decidable.byContradiction fun h => ?_
   simp [h] at he
  simp only [if_pos he]
  have e : gcdR s t = wr false (Nat.gcd (numI s) (numI t)) := by simp [gcdR, he]
  rw [e] at hq
  obtain ⟨h1, h2⟩ := zl.1 he
  have b1 := jm.2 (kS h1)
  have b2 := jm.2 (kS h2)
  clear e he h1 h2 hs ht
  generalize numI s = x0 at *
  generalize numI t = y0 at *
  refine zb.loop (ι := {z : Bool × Bool × Nat × Nat // Nat.gcd z.2.2.1 z.2.2.2 = Nat.gcd x0 y0 ∧ z.2.2.1 < B ^ 112 ∧ z.2.2.2 < B ^ 112}) (fun _ => SGc) (fun z => HGc z.1.1 z.1.2.1 z.1.2.2.1 z.1.2.2.2) (fun z => z.1.2.2.2) ⟨(negI s, negI t, x0, y0), rfl, b1, b2⟩ 0 ?_ ?_ (by kernel_rfl)
  ·exact ⟨by simp [SGc], by simp [HGc, magS, natS, za], by kernel_rfl, Nat.zero_le _⟩
  ·rintro ⟨⟨m, n, x, y⟩, hg, hx, hy⟩
   simp only at hg hx hy
   refine zb.run hmix U4 [6, 7] 400 (T := .ite (decide ((0 : Int) < (↑(canon y).length : Int))) (.ex (fun (x_1 : Nat × Nat) => eqL [AV.sl (canon x).length 1 (natG .u32 (canon x)), AV.sl (canon y).length 1 (natG .u32 (canon y))] [AV.sl (canon x_1.1).length 1 (natG .u32 (canon x_1.1)), AV.sl (canon x_1.2).length 1 (natG .u32 (canon x_1.2))] ∧ List.length (canon x_1.1) < 100000 ∧ List.length (canon x_1.2) < 100000 ∧ 0 < x_1.2) fun n_1 => .all (fun (r : Nat × Nat) => r = (n_1.1 / n_1.2, n_1.1 % n_1.2)) fun n_2 => .leaf (.back 0 [(6, .ptr 0 0), (7, .ptr 1 0)] [.box [.bool m, .sl (canon y).length 1 (natG .u32 (canon y))], .box [.bool n, .sl (canon n_2.2).length 1 (natG .u32 (canon n_2.2))]])) (.ex (fun (x_1 : Bool × Nat) => eqL [AV.agg [AV.bool false, AV.sl (canon x).length 1 (natG .u32 (canon x))]] [AV.agg [AV.bool x_1.1, AV.sl (canon x_1.2).length 1 (natG .u32 (canon x_1.2))]] ∧ List.length (canon x_1.2) < 1000000) fun n_1 => .all (fun (r : List UInt8 × Int) => r = wr n_1.1 n_1.2) fun n_2 => .leaf (.ret [.str n_2.1, .int .i64 n_2.2] [.box [.bool m, .sl (canon x).length 1 (natG .u32 (canon x))], .box [.bool n, .sl (canon y).length 1 (natG .u32 (canon y))]]))) (by kernel_rfl) ?_
   simp only [Tree.holds, zd, inR, lo, hi]
   refine ⟨fun h0 => ?_, fun h0 => ?_⟩
   ·have hy0 : 0 < y := by
     rcases Nat.eq_zero_or_pos y with h | h
     ·rw [h] at h0; simp [canon] at h0
     ·exact h
    refine ⟨(x, y), ⟨by simp [za], ?_, ?_, hy0⟩, ⟨_, rfl⟩, ?_⟩
    ·have := jm.1 hx; show (canon x).length < 100000; omega
    ·have := jm.1 hy; show (canon y).length < 100000; omega
    rintro _ rfl
    simp only
    rw [if_pos trivial]
    refine ⟨⟨(m, n, y, x % y), ?_, hy, Nat.lt_trans (Nat.mod_lt x hy0) hy⟩, Nat.mod_lt x hy0, by simp [SGc], by simp [HGc, magS, natS, za], by kernel_rfl, Nat.zero_le _⟩
    show Nat.gcd y (x % y) = Nat.gcd x0 y0
    rw [← hg, Nat.gcd_comm x y, Nat.gcd_rec y x, Nat.gcd_comm]
   ·have hy0 : y = 0 := kB.1 (by have h0 := of_decide_eq_false h0; omega)
    subst hy0
    refine ⟨(false, x), ⟨by simp [za], ?_⟩, ⟨_, rfl⟩, ?_⟩
    ·have := jm.1 hx; show (canon x).length < 1000000; omega
    rintro _ rfl
    rw [Nat.gcd_zero_right] at hg
    rw [← hg] at hq
    exact RetR.scal hq rfl (by simp [resV])
end Go.Proofs.Try
end

/- The reference's integers: digits and comparing. -/
section
set_option maxRecDepth 100000
open Go Go.Sx Go.Proofs Go.Nov
namespace Go.Proofs.Try
attribute [local simp] eqKV eqA eqA0 eqH eqB eqL eqL0
theorem Jc {h : Heap} {i sz off n n' : Nat} {g : Nat → Nat → AV} (hb : h[i]? = some (.arr n' sz g)) (hn : off + n ≤ n') : exp0 h [] (.osl i sz off n) = .sl n sz (zh g off) := by
 simp [exp0, z0, frz1, jr, hb, hn]
theorem Y4 {h : Heap} {i sz off n n' : Nat} {g : Nat → Nat → AV} (hb : h[i]? = some (.arr n' sz g)) (hn : off + n ≤ n') (hs : ∀ j o, j < n → o < sz → qc (zh g off j o) = true) : new0 h [] (.osl i sz off n) := by
 simp only [new0]
 intro _
 rw [Jc hb hn]
 exact hs
theorem zak (g : Nat → Nat → AV) : zh g 0 = g := by
 funext j o; simp [zh]
end Go.Proofs.Try
end

/- The reference's integers: texts. -/
section
set_option maxRecDepth 100000
open Go Go.Sx Go.Proofs Go.Nov
namespace Go.Proofs.Try
attribute [local simp] eqKV eqA eqA0 eqH eqB eqL eqL0
end Go.Proofs.Try
end

/- The reference's integers: dividing. -/
section
set_option maxRecDepth 100000
open Go Go.Sx Go.Proofs Go.Nov
namespace Go.Proofs.Try
attribute [local simp] eqKV eqA eqA0 eqH eqB eqL eqL0
structure IRo (l m : List Nat) where
 qs : List Nat
 r : List Nat
 i : Nat
 hi : i ≤ l.length
 hql : qs.length + i = l.length
 hqd : Ten.dig qs
 hrd : Ten.dig r
 hrl : r.length ≤ m.length + 1
 hrl2 : r.length + i ≤ l.length
 hlt : Ten.val r < Ten.val m
 hv : Ten.val (l.drop i) = Ten.val qs * Ten.val m + Ten.val r
end Go.Proofs.Try
end

/- The reference's integers: the greatest common divisor. -/
section
set_option maxRecDepth 100000
open Go Go.Sx Go.Proofs Go.Nov
namespace Go.Proofs.Try
attribute [local simp] eqKV eqA eqA0 eqH eqB eqL eqL0
def big : Nat := 1000
end Go.Proofs.Try
end

/- The library's search for a byte, and what it means for the contracts. -/
section
namespace Go.Proofs
set_option maxHeartbeats 1000000 in
set_option maxRecDepth 100000 in
theorem Try.J8 (s : ByteArray) (c : Int) (w : World) :
  Calls Try.prog 107 #[.string s, .int .u8 c] w fun e w' => e = .returned (.int .i64 (Lib.indexByte s.data.toList c.toNat.toUInt8)) ∧ w' = w := by
 go_enter Try.func107, Try.ntmps107
 go_wp2
 rw [run_callFunc_extern Try.func113 (by kernel_rfl) (by kernel_rfl) (by kernel_rfl) (e := Extern.BytealgIndexByte.indexByte) (by kernel_rfl), Lib.run_indexByteString]
 simp only [Result.andThen]
 rw [Oper.upon_value]
 go_wp2
 go_ret
 exact ⟨rfl, rfl⟩
set_option maxHeartbeats 2000000 in
set_option maxRecDepth 100000 in
theorem Try.WO (s : ByteArray) (c : UInt8) (w : World) :
  Calls Try.prog 100 #[.string s, .string ⟨#[c]⟩] w fun e w' => e = .returned (.int .i64 (Lib.indexByte s.data.toList c)) ∧ w' = w := by
 go_enter Try.func100, Try.ntmps100
 go_wp2_with (go_at_call 107; refine (Try.J8 _ _ _).mono ?_; rintro e w' ⟨rfl, rfl⟩)
 ·have h : ([c] == s.toList) = true := by assumption
  go_ret
  refine ⟨?_, rfl⟩
  have e : s.data.toList = [c] := by rw [← Lib.toList_data]; exact (beq_iff_eq.1 h).symm
  rw [e]
  simp [Lib.indexByte]
 ·go_ret
  exact ⟨rfl, rfl⟩
end Go.Proofs
end

/- Rationals: splitting and checking. -/
section
set_option maxRecDepth 100000
open Go Go.Sx Go.Proofs Go.Nov
namespace Go.Proofs.Try
attribute [local simp] eqKV eqA eqA0 eqH eqB eqL eqL0
theorem y5 (s : List UInt8) : Lib.indexByte s 47 = if z5 s < s.length then (z5 s : Int) else -1 := by
 induction s with
 | nil => rfl
 | cons c s ih =>
  simp only [Lib.indexByte, z5, List.findIdx_cons]
  cases h : (c == 47) with
  | true => simp
  | false =>
   simp only [Bool.false_eq_true, if_false, ih, cond_false, List.length_cons]
   show _ = if z5 s + 1 < s.length + 1 then ((z5 s + 1 : Nat) : Int) else -1
   by_cases h2 : z5 s < s.length
   ·rw [if_pos h2, if_neg (by simp), if_pos (by omega)]; omega
   ·rw [if_neg h2, if_pos (by rfl), if_neg (by omega)]
def WR : Ctr := ctrP true (fun s : List UInt8 => [.str s, .str [47]]) (fun s => True) (fun s r => r = if z5 s < s.length then (z5 s : Int) else -1) (fun _ (r : Int) => (.int .i64 r, []))
theorem XU : ze Try.prog 100 WR := by
 intro args hc Q hq _
 simp only [WR, ctrP] at hq
 split at hq
 ·obtain ⟨s, ⟨h1, _⟩, _, h3⟩ := hq
  have hq := h3 _ rfl
  simp only [Tree.holds] at hq
  refine ji.le h1 ?_
  intro O w σ vals hg hh hr
  simp only [RepL, Rep] at hr
  obtain ⟨v1, r1, rfl, rfl, v2, r2, rfl, rfl, rfl⟩ := hr
  refine .inl ⟨enters_of Try.func100 (by kernel_rfl) rfl .., ?_⟩
  refine (Try.WO ⟨s.toArray⟩ 47 w).mono ?_
  rintro e w' ⟨rfl, rfl⟩
  have hx := y5 s
  have h0 : σ = [] := List.length_eq_zero_iff.1 hh.len
  subst h0
  refine ⟨_, rfl, _, [], [], hq, ?_, ⟨rfl, fun i j e f a b h => by simp at h, fun i e a h => by simp at h, fun i e b h => by simp at h⟩, hg, Nat.le_refl _, Hold.refl _ _ _, Ext.refl _ _⟩
  simp only [Rep]
  rw [← hx]
 ·exact hq.elim
def cutC : Ctr := ctrP true (fun s : List UInt8 => [.str s, .str [47]]) (fun s => s.length < 2 ^ 62) (fun s r => r = cutR s) (fun _ r => (.tup [.str r.1, .str r.2.1, .bool r.2.2], []))
noncomputable def GC1 : Nat → Option Ctr := fun f => if f = 100 then some (WR) else none
theorem UD : ∀ g c, GC1 g = some c → ze Try.prog g c := okIf XU (zz)
theorem YZ : ze Try.prog 88 cutC := by
 refine zr (fn := Try.f88) (c := Try.f88.body.getD .skip) rfl rfl rfl fun s hs O w0 Q hq => ?_
 replace hq := hq _ rfl
 refine zb.run hmix UD [] 400 (T := .ex (fun (x : List UInt8) => eqL [AV.str s, AV.str [(47 : UInt8)]] [AV.str x, AV.str [(47 : UInt8)]] ∧ True) fun n => .all (fun (r : Int) => r = if z5 n < n.length then (↑(z5 n) : Int) else (-1 : Int)) fun n => .ite (decide ((0 : Int) ≤ n)) (.side ((0 : Int) ≤ n ∧ n ≤ (↑s.length : Int)) (.side (inR .i64 (n + (1 : Int))) (.side ((0 : Int) ≤ n + (1 : Int) ∧ n + (1 : Int) ≤ s.length) (.leaf (.ret [.str (List.drop 0 (List.take (Int.toNat n) s)), .str (List.drop (Int.toNat (n + (1 : Int))) (List.take s.length s)), .bool true] []))))) (.leaf (.ret [.str s, .str (Array.toList #[]), .bool false] []))) (by kernel_rfl) ?_
 simp only [Tree.holds, zd, inR, lo, hi]
 refine ⟨s, ⟨by simp, trivial⟩, ⟨_, rfl⟩, ?_⟩
 rintro _ rfl
 by_cases h : z5 s < s.length
 ·simp only [if_pos h]
  rw [Vp h] at hq
  refine ⟨fun _ => ⟨by omega, fun _ => ⟨by omega, fun _ => ⟨by omega, fun _ => ?_⟩⟩⟩, fun hn => ?_⟩
  ·refine RetR.scal hq rfl ?_
   simp [resV]
  ·have := of_decide_eq_false hn; omega
 ·simp only [if_neg h]
  rw [Xj h] at hq
  refine ⟨fun hn => ?_, fun _ => RetR.scal hq rfl (by simp [resV])⟩
  have := of_decide_eq_true hn; omega
noncomputable def GC2 : Nat → Option Ctr := fun f => if f = 88 then some (cutC) else none
theorem zai : ∀ g c, GC2 g = some c → ze Try.prog g c := okIf YZ (zz)
theorem UC : ze Try.prog 70 cutC := by
 refine zr (fn := Try.f70) (c := Try.f70.body.getD .skip) rfl rfl rfl fun s hs O w0 Q hq => ?_
 replace hq := hq _ rfl
 refine zb.run hmix zai [] 400 (T := .ex (fun (x : List UInt8) => eqL [AV.str s, AV.str [(47 : UInt8)]] [AV.str x, AV.str [(47 : UInt8)]] ∧ x.length < 4611686018427387904) fun n => .all (fun (r : List UInt8 × List UInt8 × Bool) => r = cutR n) fun n => .leaf (.ret [.str n.1, .str (n.2.1), .bool (n.2.2)] [])) (by kernel_rfl) ?_
 simp only [Tree.holds, zd, inR, lo, hi]
 refine ⟨s, ⟨by simp, hs⟩, ⟨_, rfl⟩, ?_⟩
 rintro _ rfl
 exact RetR.scal hq rfl (by simp [resV])
def WX : Ctr := ctrP true (fun s : List UInt8 => [.str s]) (fun s => s.length < 2 ^ 62) (fun s r => r = cutR s) (fun _ r => (.tup [.str r.1, .str r.2.1, .bool r.2.2], []))
noncomputable def GC3 : Nat → Option Ctr := fun f => if f = 70 then some (cutC) else if f = 53 then some (uP) else none
theorem KY : ∀ g c, GC3 g = some c → ze Try.prog g c := okIf UC (okIf u5 (zz))
theorem Jk : ze Try.prog 51 WX := by
 refine zr (fn := Try.f51) (c := Try.f51.body.getD .skip) rfl rfl rfl fun s hs O w0 Q hq => ?_
 replace hq := hq _ rfl
 refine zb.run hmix KY [] 400 (T := .ex (fun (x : List UInt8) => eqL [AV.str s, AV.str (Array.toList #[(47 : UInt8)])] [AV.str x, AV.str [(47 : UInt8)]] ∧ x.length < 4611686018427387904) fun n => .all (fun (r : List UInt8 × List UInt8 × Bool) => r = cutR n) fun n => .leaf (.ret [.str n.1, .str (n.2.1), .bool (n.2.2)] [])) (by kernel_rfl) ?_
 simp only [Tree.holds, zd, inR, lo, hi]
 refine ⟨s, ⟨by simp, hs⟩, ⟨_, rfl⟩, ?_⟩
 rintro _ rfl
 exact RetR.scal hq rfl (by simp [resV])
def U3 : Ctr := ctrP true (fun s : List UInt8 => [.str s]) (fun s => s.length < 2 ^ 62) (fun s r => r = if errI s = 12 then 12 else 0) (fun _ (r : Int) => (.int .i64 r, []))
theorem YR : ze Try.prog 52 U3 := by
 refine zr (fn := Try.f52) (c := Try.f52.body.getD .skip) rfl rfl rfl fun s hs O w0 Q hq => ?_
 replace hq := hq _ rfl
 refine zb.run hmix KY [] 400 (T := .ex (fun (x : List UInt8) => eqL [AV.str s] [AV.str x] ∧ x.length < 4611686018427387904) fun n => .all (fun (r : Int) => r = errI n) fun n => .ite (!decide (n = 14)) (.leaf (.ret [.int .i64 n] [])) (.leaf (.ret [.int .i64 0] []))) (by kernel_rfl) ?_
 simp only [Tree.holds, zd, inR, lo, hi]
 refine ⟨s, ⟨by simp, hs⟩, ⟨_, rfl⟩, ?_⟩
 rintro _ rfl
 rcases vn s with h | h | h <;> simp only [h] at hq ⊢
 all_goals
  refine ⟨fun h => ?_, fun h => ?_⟩
  all_goals first
   | (exfalso; revert h; decide)
   | exact RetR.scal hq rfl (by simp [resV])
def ky : Ctr := ctrP true (fun s : List UInt8 => [.str s]) (fun s => s.length < 2 ^ 62) (fun s r => r = errR s) (fun _ (r : Int) => (.int .i64 r, []))
noncomputable def GC4 : Nat → Option Ctr := fun f => if f = 51 then some (WX) else if f = 52 then some (U3) else if f = 53 then some (uP) else if f = 54 then some (gcdC) else none
theorem UA : ∀ g c, GC4 g = some c → ze Try.prog g c := okIf Jk (okIf YR (okIf u5 (okIf KN (zz))))
theorem wW : ze Try.prog 30 ky := by
 refine zr (fn := Try.f30) (c := Try.f30.body.getD .skip) rfl rfl rfl fun s hs O w0 Q hq => ?_
 replace hq := hq _ rfl
 refine zb.run hmix UA [] 400 (T := .ex (fun (x : List UInt8) => eqL [AV.str s] [AV.str x] ∧ x.length < 4611686018427387904) fun n => .all (fun (r : List UInt8 × List UInt8 × Bool) => r = cutR n) fun n => .ex (fun (x : List UInt8) => eqL [AV.str n.1] [AV.str x] ∧ x.length < 4611686018427387904) fun n_1 => .all (fun (r : Int) => r = if errI n_1 = 12 then (12 : Int) else (0 : Int)) fun n_2 => .ex (fun (x : List UInt8) => (!decide (n_2 = 0)) = false ∧ n.2.2 = true → eqL [AV.str (n.2.1)] [AV.str x] ∧ x.length < 4611686018427387904) fun n_3 => .all (fun (x : Int) => (!decide (n_2 = 0)) = false ∧ n.2.2 = true → x = if errI n_3 = 12 then (12 : Int) else (0 : Int)) fun n_4 => .side (((!decide (n_2 = 0)) = false ∧ n.2.2 = true) ∧ (!decide (n_4 = 0)) = false → (0 : Int) ≤ 0 ∧ (0 : Int) < (↑(List.length (n.2.1)) : Int)) (.ite (bif !decide (n_2 = 0) then true else bif n.2.2 then bif bif bif !decide (n_4 = 0) then true else decide ((↑(UInt8.toNat (List.getD (n.2.1) 0 (0 : UInt8))) : Int) = 45) then true else decide (n.2.1 = Array.toList #[(48 : UInt8)]) then true else decide (n.2.1 = Array.toList #[(49 : UInt8)]) else false) (.leaf (.ret [.int .i64 12] [])) (.ex (fun (x : List UInt8) => eqL [AV.str n.1] [AV.str x] ∧ x.length < 4611686018427387904) fun n_5 => .all (fun (r : Int) => r = errI n_5) fun n_6 => .ex (fun (x : List UInt8) => (!decide (n_6 = 0)) = false ∧ n.2.2 = true → eqL [AV.str (n.2.1)] [AV.str x] ∧ x.length < 4611686018427387904) fun n_7 => .all (fun (x : Int) => (!decide (n_6 = 0)) = false ∧ n.2.2 = true → x = errI n_7) fun n_8 => .ite (bif !decide (n_6 = 0) then true else bif n.2.2 then !decide (n_8 = 0) else false) (.leaf (.ret [.int .i64 14] [])) (.ite (n.2.2) (.ex (fun (x : List UInt8 × List UInt8) => eqL [AV.str n.1, AV.str (n.2.1)] [AV.str x.1, AV.str x.2] ∧ x.1.length < 4611686018427387904 ∧ x.2.length < 4611686018427387904) fun n => .all (fun (r : List UInt8 × Int) => r = gcdR n.1 n.2) fun n => .ite (!decide (n.1 = Array.toList #[(49 : UInt8)])) (.leaf (.ret [.int .i64 12] [])) (.leaf (.ret [.int .i64 0] []))) (.leaf (.ret [.int .i64 0] [])))))) (by kernel_rfl) ?_
 simp only [Tree.holds, zd, inR, lo, hi]
 refine ⟨s, ⟨by simp, hs⟩, ⟨_, rfl⟩, ?_⟩
 rintro _ rfl
 have hlen := Qj s
 have hno : (cutR s).2.2 = false → (cutR s).1 = s := by
  intro h
  unfold cutR at h ⊢
  split at h
  ·cases h
  ·rename_i hn; rw [if_neg hn]
 simp only [errR] at hq
 generalize cutR s = c at hq hlen hno ⊢
 obtain ⟨n, d, f⟩ := c
 simp only at hq hlen hno ⊢
 refine ⟨n, ⟨by simp, by omega⟩, ⟨_, rfl⟩, ?_⟩
 rintro _ rfl
 refine ⟨d, fun _ => ⟨by simp, by omega⟩, ⟨_, fun _ => rfl⟩, ?_⟩
 intro fd hfd
 cases f with
 | false =>
  have hn := hno rfl
  subst hn
  rw [if_neg (by decide)] at hq
  refine ⟨fun h => by simp at h, fun _ => ⟨fun h => ?_, fun h => ?_⟩⟩
  ·rcases vn n with e | e | e <;> rw [e] at hq h
   ·simp at h
   ·exact RetR.scal hq rfl (by simp [resV])
   ·simp at h
  ·have hn12 : errI n ≠ 12 := by
    intro e; rw [e] at h; simp at h
   refine ⟨n, ⟨by simp, by omega⟩, ⟨_, rfl⟩, ?_⟩
   rintro _ rfl
   refine ⟨d, fun _ => ⟨by simp, by omega⟩, ⟨_, fun _ => rfl⟩, ?_⟩
   intro fd2 _
   refine ⟨fun h => ?_, fun h => ⟨fun h => (by cases h), fun _ => ?_⟩⟩
   ·rcases vn n with e | e | e
    ·rw [e] at h; simp at h
    ·exact absurd e hn12
    ·rw [e] at hq; exact RetR.scal hq rfl (by simp [resV])
   ·rcases vn n with e | e | e
    ·rw [e] at hq; exact RetR.scal hq rfl (by simp [resV])
    ·exact absurd e hn12
    ·rw [e] at h; simp at h
 | true =>
  rw [if_pos rfl] at hq
  by_cases hn : errI n = 12
  ·rw [if_pos (.inl hn)] at hq
   simp only [hn]
   refine ⟨fun h => by simp at h, fun _ => ⟨fun _ => RetR.scal hq rfl (by simp [resV]), fun h => by simp at h⟩⟩
  ·rw [if_neg hn] at hfd ⊢
   have hfd := hfd ⟨by simp, rfl⟩
   subst hfd
   by_cases hd : errI d = 12
   ·rw [if_pos (.inr (.inl hd))] at hq
    rw [if_pos hd]
    refine ⟨fun h => by simp at h, fun _ => ⟨fun _ => RetR.scal hq rfl (by simp [resV]), fun h => by simp at h⟩⟩
   ·rw [if_neg hd]
    have hd0 : d ≠ [] := by rintro rfl; exact hd JB
    have hneg := Z4 hd0
    have hneg2 : decide (((d.getD 0 0).toNat : Int) = 45) = negI d := by
     rw [hneg]
     by_cases h : d.getD 0 0 = 45
     ·rw [h]; rfl
     ·rw [decide_eq_false h]
      refine decide_eq_false fun h2 => h (V4 ?_)
      rw [h2]; rfl
    rw [hneg2]
    refine ⟨fun _ => by have := List.length_pos_iff.2 hd0; omega, fun _ => ⟨fun h => ?_, fun h => ?_⟩⟩
    ·have : negI d = true ∨ d = [48] ∨ d = [49] := by
      revert h
      cases negI d <;> simp
     rw [if_pos (.inr (.inr this))] at hq
     exact RetR.scal hq rfl (by simp [resV])
    ·have : ¬ (errI n = 12 ∨ errI d = 12 ∨ negI d = true ∨ d = [48] ∨ d = [49]) := by
      revert h
      cases negI d <;> simp [hn, hd]
     rw [if_neg this] at hq
     refine ⟨n, ⟨by simp, by omega⟩, ⟨_, rfl⟩, ?_⟩
     rintro _ rfl
     refine ⟨d, fun _ => ⟨by simp, by omega⟩, ⟨_, fun _ => rfl⟩, ?_⟩
     intro ed hed
     by_cases hn0 : errI n = 0
     ·have hed := hed ⟨by simp [hn0], rfl⟩
      subst hed
      by_cases hd0 : errI d = 0
      ·rw [if_neg (by simp [hn0, hd0])] at hq
       refine ⟨fun h => by simp [hn0, hd0] at h, fun _ => ⟨fun _ => ?_, fun h => by cases h⟩⟩
       refine ⟨(n, d), ⟨by simp, by simp only; omega, by simp only; omega⟩, ⟨_, rfl⟩, ?_⟩
       rintro _ rfl
       refine ⟨fun h => ?_, fun h => ?_⟩
       ·rw [if_pos (by simpa using h)] at hq
        exact RetR.scal hq rfl (by simp [resV])
       ·rw [if_neg (by simpa using h)] at hq
        exact RetR.scal hq rfl (by simp [resV])
      ·rw [if_pos (.inr hd0)] at hq
       refine ⟨fun _ => RetR.scal hq rfl (by simp [resV]), fun h => by simp [hn0, hd0] at h⟩
     ·rw [if_pos (.inl hn0)] at hq
      refine ⟨fun _ => RetR.scal hq rfl (by simp [resV]), fun h => by simp [hn0] at h⟩
end Go.Proofs.Try
end

/- Names and days. -/
section
set_option maxRecDepth 100000
open Go Go.Sx Go.Proofs Go.Nov
namespace Go.Proofs.Try
attribute [local simp] eqKV eqA eqA0 eqH eqB eqL eqL0
end Go.Proofs.Try
end

/- Integers as they are written: sums, products, comparisons. -/
section
namespace Go.Nov
def sumS (m : Bool) (x : Nat) (n : Bool) (y : Nat) : Bool × Nat := if m = n then (m, x + y) else if y ≤ x then (m, x - y) else (n, y - x)
def addI (s t : List UInt8) : List UInt8 × Int := if zp s t = 0 then wr (sumS (negI s) (numI s) (negI t) (numI t)).1 (sumS (negI s) (numI s) (negI t) (numI t)).2 else ([], zp s t)
def subI (s t : List UInt8) : List UInt8 × Int := if zp s t = 0 then wr (sumS (negI s) (numI s) (!negI t) (numI t)).1 (sumS (negI s) (numI s) (!negI t) (numI t)).2 else ([], zp s t)
def mulI (s t : List UInt8) : List UInt8 × Int := if zp s t = 0 then wr (negI s != negI t) (numI s * numI t) else ([], zp s t)
def cmpZ (m : Bool) (x : Nat) (n : Bool) (y : Nat) : Int := if m = true ∧ n = false then -1 else if n = true ∧ m = false then 1 else if m = true then cmpN y x else cmpN x y
def zat (s t : List UInt8) : Int × Int := if zp s t = 0 then (cmpZ (negI s) (numI s) (negI t) (numI t), 0) else (0, zp s t)
theorem yE {d : Nat} (h : d < 10) : (byt d).toNat = 48 + d := by
 unfold byt
 rw [UInt8.toNat_ofNat']
 omega
theorem xg {x : Nat} (h : x ≠ 0) : txt x = ((dec x).map byt).reverse := if_neg h
theorem yI {x : Nat} (h : x ≠ 0) : (txt x).length = (dec x).length := by rw [xg h]; simp
theorem VX {x : Nat} (h : x ≠ 0) : allD (txt x) := by
 intro c hc
 rw [xg h] at hc
 simp only [List.mem_reverse, List.mem_map] at hc
 obtain ⟨d, hd, rfl⟩ := hc
 have : d < 10 := Ten.zg x d hd
 rw [yE this]
 omega
theorem UI {x : Nat} (h : x ≠ 0) : dg (txt x) = dec x := by
 rw [xg h, dg, List.map_reverse, List.reverse_reverse, List.map_map]
 conv => rhs; rw [← List.map_id (dec x)]
 refine List.map_congr_left fun d hd => ?_
 have : d < 10 := Ten.zg x d hd
 simp only [Function.comp, yE this, id]
 omega
theorem YG {x : Nat} (h : x ≠ 0) : numD (txt x) = x := by
 rw [← Wk, UI h]
 exact Ten.zi x
theorem Zs {x : Nat} (h : x ≠ 0) : (txt x).getD 0 0 ≠ 48 ∧ (txt x).getD 0 0 ≠ 45 := by
 have hl := Qp h
 have ht := VH hl
 have hlt := dec_lt x ((dec x).length - 1)
 have e : (txt x).getD 0 0 = byt ((dec x).getD ((dec x).length - 1) 0) := by
  rw [xg h]
  simp only [List.getD_eq_getElem?_getD]
  rw [List.getElem?_reverse (by simpa using hl)]
  simp [List.getElem?_eq_getElem (show (dec x).length - 1 < (dec x).length by omega)]
 rw [e]
 have hb := yE hlt
 constructor
 ·intro h2
  rw [h2] at hb
  have : (48 : UInt8).toNat = 48 := rfl
  omega
 ·intro h2
  rw [h2] at hb
  have : (45 : UInt8).toNat = 45 := rfl
  omega
theorem XA {x : Nat} (h : x ≠ 0) : txt x ≠ [] := by
 intro h2
 have := yI h
 rw [h2] at this
 have := Qp h
 simp at *; omega
theorem KF {x : Nat} (h : x ≠ 0) (neg : Bool) : parse (sgn neg (txt x)) = (neg, txt x) := by
 cases neg with
 | true => rfl
 | false =>
  simp only [sgn, Bool.false_eq_true, if_false]
  have h1 := (Zs h).2
  cases ht : txt x with
  | nil => exact absurd ht (XA h)
  | cons c b =>
   rw [ht] at h1
   have : c ≠ 45 := h1
   simp [parse, this]
theorem KO {x : Nat} (h : x ≠ 0) (neg : Bool) : j6 neg (txt x) = true := by
 have h1 := (Zs h).1
 have h2 : txt x ≠ [48] := by
  intro h2
  rw [h2] at h1
  exact h1 rfl
 have h3 := XA h
 have h4 : (txt x).all isD = true := VK.2 (VX h)
 simp only [List.getD_eq_getElem?_getD] at h1
 simp [j6, h3, h2, h1, h4]
theorem yp {neg : Bool} {x : Nat} (h : (wr neg x).2 = 0) : errI (wr neg x).1 = 0 ∧ numI (wr neg x).1 = x ∧ negI (wr neg x).1 = (neg && decide (x ≠ 0)) := by
 unfold wr at h ⊢
 by_cases h0 : x = 0
 ·subst h0
  simp only [if_true]
  refine ⟨rfl, rfl, ?_⟩
  simp [negI, parse]
 ·rw [if_neg h0] at h ⊢
  by_cases h1 : 1000 < (dec x).length
  ·rw [if_pos h1] at h; cases h
  ·rw [if_neg h1]
   simp only [errI, numI, negI, KF h0, KO h0, if_true]
   rw [yI h0, if_neg h1]
   exact ⟨rfl, YG h0, by simp [h0]⟩
theorem WH (neg : Bool) (x : Nat) : (wr neg x).2 = 0 ∨ wr neg x = ([], 14) := by
 unfold wr
 split
 ·exact .inl rfl
 ·split
  ·exact .inr rfl
  ·exact .inl rfl
theorem Ub (neg : Bool) (b : List UInt8) : (sgn neg b).length ≤ b.length + 1 := by
 unfold sgn; split <;> simp
theorem vg (neg : Bool) (x : Nat) : (wr neg x).1.length ≤ 1001 := by
 unfold wr
 split
 ·simp
 ·rename_i h0
  split
  ·simp
  ·rename_i h1
   have := Ub neg (txt x)
   rw [yI h0] at this
   simp only
   omega
theorem Yn (s t : List UInt8) : (addI s t).1.length ≤ 1001 := by
 unfold addI
 split
 ·exact vg _ _
 ·simp
theorem XZ (s t : List UInt8) : (subI s t).1.length ≤ 1001 := by
 unfold subI
 split
 ·exact vg _ _
 ·simp
theorem Yl (s t : List UInt8) : (mulI s t).1.length ≤ 1001 := by
 unfold mulI
 split
 ·exact vg _ _
 ·simp
theorem VP (b : Bool) (x : Nat) : wr (b && decide (0 < x)) x = wr b x := by
 unfold wr
 by_cases h : x = 0
 ·rw [if_pos h, if_pos h]
 ·rw [if_neg h, if_neg h]
  have : decide (0 < x) = true := decide_eq_true (Nat.pos_of_ne_zero h)
  rw [this, Bool.and_true]
theorem Z8 (m : Bool) (x : Nat) (n : Bool) : sumS m x n 0 = (m, x) := by
 unfold sumS
 split
 ·rfl
 ·simp
theorem KB (m : Bool) (x : Nat) (n : Bool) (y : Nat) : sumS m x (n && decide (0 < y)) y = sumS m x n y := by
 by_cases h : y = 0
 ·subst h; rw [Z8, Z8]
 ·have : decide (0 < y) = true := decide_eq_true (Nat.pos_of_ne_zero h)
  rw [this, Bool.and_true]
theorem VI (m : Bool) (x : Nat) (n : Bool) (y : Nat) : (sumS m x n y).2 ≤ x + y := by
 unfold sumS
 split
 ·exact Nat.le_refl _
 ·split
  ·simp only; omega
  ·simp only; omega
end Go.Nov
end

/- The integers: addition of magnitudes. -/
section
set_option maxRecDepth 100000
open Go Go.Sx Go.Proofs Go.Nov
namespace Go.Proofs.Try
attribute [local simp] eqKV eqA eqA0 eqH eqB eqL eqL0
noncomputable def K84 : List Go.Sx.Item := [.code (Try.f84.body.getD .skip)]
def V9 : Ctr := ctr2 true (fun x y => (canon x).length < 100000 ∧ (canon y).length < 100000) (fun x y d => d = x + y) (fun _ _ d => (magS d, []))
def SPl (x y : Nat) (o : List Nat) (c i : Nat) : KV := [(1, magS y), (5, .osl 0 1 0 o.length), (6, .int .u32 (c : Int)), (21, magS x), (22, .int .i64 ((canon x).length : Int)), (23, .int .i64 (i : Int))]
structure IPl (x y : Nat) where
 o : List Nat
 c : Nat
 i : Nat
 len : o.length = i
 le : i ≤ (canon x).length
 dg : dig o
 c1 : c ≤ 1
 eq : val o + B ^ i * c = val ((canon x).take i) + val ((canon y).take i)
theorem UH {x y o c i d c' : Nat} {l m : List Nat} (h : o + B ^ i * c = val (l.take i) + val (m.take i)) (he : d + B * c' = l.getD i 0 + m.getD i 0 + c) : o + B ^ i * d + B ^ (i + 1) * c' = val (l.take (i + 1)) + val (m.take (i + 1)) := by
 rw [zn, zn, Nat.pow_succ]
 have := congrArg (B ^ i * ·) he
 simp only [Nat.mul_add] at this
 rw [Nat.mul_assoc]
 omega
theorem RetR.zao {ctr : Ctr} {Q : AV × Heap → Prop} {h : Heap} {i m n : Nat} {k : IntKind} {l : List Nat} {G : Nat → Nat → AV} (hq : Q (natS k l, [])) (hb : h[i]? = some (.arr m 1 G)) (hn : n ≤ m) (hl : l.length = n) (hG : ∀ j, j < n → G j 0 = .int k ((l.getD j 0 : Nat) : Int)) : RetR ctr 0 Q [.osl i 1 0 n] h := by
 refine RetR.out0 hq (fun _ => ?_) ?_
 ·refine Y4 hb (by omega) fun j o hj ho => ?_
  have : o = 0 := by omega
  subst this
  simp only [zh, Nat.zero_add, hG j hj, qc]
 ·have e : exp2 h [] (resV [.osl i 1 0 n]) = exp0 h [] (.osl i 1 0 n) := rfl
  rw [e, Jc hb (by omega), zak]
  simp only [eqA2, natS]
  refine ⟨hl.symm, rfl, fun j o hj ho => ?_⟩
  have : o = 0 := by omega
  subst this
  rw [hG j hj]; rfl
theorem Js {O : Nat → Prop} {w0 : World} {Q : AV × Heap → Prop} (x y : Nat) (hx : (canon x).length < 100000) (hlen : (canon y).length ≤ (canon x).length) (hq : Q (magS (x + y), [])) (kv : KV) (h : Heap) (hle : LeK 0 Try.f84.ntmps kv h (SPl x y [] 0 0) [.arr 0 1 (natG .u32 [])]) :
  zb Try.prog Try.f84 O 0 w0 [] (fun _ _ _ => False) (RetR V9 0 Q) (.code (.loop (lps K84 0).1) :: (lps K84 0).2) (mk Try.f84.ntmps kv h) := by
 refine zb.loop (ι := IPl x y) (fun s => SPl x y s.o s.c s.i) (fun s => [.arr s.o.length 1 (natG .u32 s.o)]) (fun s => (canon x).length - s.i) ⟨[], 0, 0, rfl, Nat.zero_le _, by simp [dig], by omega, by simp [val]⟩ 0 hle ?_ (by kernel_rfl)
 rintro ⟨o, c, i, ho, hle, hd, hc, he⟩
 subst ho
 have hB : B = 1000000000 := rfl
 refine zb.run hmix xj [1, 5, 6, 21, 22, 23] 400 (T := .ite (decide ((↑o.length : Int) < (↑(canon x).length : Int))) (.side ((0 : Int) ≤ o.length ∧ (↑o.length : Int) < (↑(canon x).length : Int)) (.side (inR .u32 ((↑(List.getD (canon x) (Int.toNat (↑o.length : Int)) 0) : Int) + c)) (.ite (decide ((↑o.length : Int) < (↑(canon y).length : Int))) (.side ((0 : Int) ≤ o.length ∧ (↑o.length : Int) < (↑(canon y).length : Int)) (.side (inR .u32 ((↑(List.getD (canon x) (Int.toNat (↑o.length : Int)) 0) : Int) + c + (↑(List.getD (canon y) (Int.toNat (↑o.length : Int)) 0) : Int))) (.side ((1000000000 : Int) ≠ 0 ∧ inR .u32 (Int.tdiv ((↑(List.getD (canon x) (Int.toNat (↑o.length : Int)) 0) : Int) + c + (↑(List.getD (canon y) (Int.toNat (↑o.length : Int)) 0) : Int)) (1000000000 : Int))) (.side ((1000000000 : Int) ≠ 0) (.side (0 = 0 ∧ o.length ≤ o.length ∧ (o.length + 1) * 4 ≤ 140737488355328) (.side (inR .i64 ((↑o.length : Int) + (1 : Int))) (.leaf (.back 0 [(1, .sl (canon y).length 1 (natG .u32 (canon y))), (5, .osl 0 1 0 (o.length + 1)), (6, .int .u32 (Int.tdiv ((↑(List.getD (canon x) (Int.toNat (↑o.length : Int)) 0) : Int) + c + (↑(List.getD (canon y) (Int.toNat (↑o.length : Int)) 0) : Int)) (1000000000 : Int))), (21, .sl (canon x).length 1 (natG .u32 (canon x))), (22, .int .i64 (↑(canon x).length : Int)), (23, .int .i64 ((↑o.length : Int) + (1 : Int)))] [.arr (o.length + 1) 1 (appG o.length (natG .u32 o) (zh (zc 1 [.int .u32 (Int.tmod ((↑(List.getD (canon x) (Int.toNat (↑o.length : Int)) 0) : Int) + c + (↑(List.getD (canon y) (Int.toNat (↑o.length : Int)) 0) : Int)) (1000000000 : Int))]) 0)), .arr 1 1 (zc 1 [.int .u32 (Int.tmod ((↑(List.getD (canon x) (Int.toNat (↑o.length : Int)) 0) : Int) + c + (↑(List.getD (canon y) (Int.toNat (↑o.length : Int)) 0) : Int)) (1000000000 : Int))])])))))))) (.side ((1000000000 : Int) ≠ 0 ∧ inR .u32 (Int.tdiv ((↑(List.getD (canon x) (Int.toNat (↑o.length : Int)) 0) : Int) + c) (1000000000 : Int))) (.side ((1000000000 : Int) ≠ 0) (.side (0 = 0 ∧ o.length ≤ o.length ∧ (o.length + 1) * 4 ≤ 140737488355328) (.side (inR .i64 ((↑o.length : Int) + (1 : Int))) (.leaf (.back 0 [(1, .sl (canon y).length 1 (natG .u32 (canon y))), (5, .osl 0 1 0 (o.length + 1)), (6, .int .u32 (Int.tdiv ((↑(List.getD (canon x) (Int.toNat (↑o.length : Int)) 0) : Int) + c) (1000000000 : Int))), (21, .sl (canon x).length 1 (natG .u32 (canon x))), (22, .int .i64 (↑(canon x).length : Int)), (23, .int .i64 ((↑o.length : Int) + (1 : Int)))] [.arr (o.length + 1) 1 (appG o.length (natG .u32 o) (zh (zc 1 [.int .u32 (Int.tmod ((↑(List.getD (canon x) (Int.toNat (↑o.length : Int)) 0) : Int) + c) (1000000000 : Int))]) 0)), .arr 1 1 (zc 1 [.int .u32 (Int.tmod ((↑(List.getD (canon x) (Int.toNat (↑o.length : Int)) 0) : Int) + c) (1000000000 : Int))])]))))))))) (.side (0 = 0 ∧ o.length ≤ o.length ∧ (o.length + 1) * 4 ≤ 140737488355328) (.ex (fun (u : List Nat) => u.length = o.length + 1 ∧ 0 + (o.length + 1) ≤ o.length + 1 ∧ o.length + 1 < 4611686018427387904 ∧ eqG (o.length + 1) 1 (appG o.length (natG .u32 o) (zh (zc 1 [AV.int .u32 c]) 0)) (natG .u32 u) ∧ dig (List.take (o.length + 1) (List.drop 0 u))) fun n => .all (fun (x : Nat) => x = val (List.take (o.length + 1) (List.drop 0 n))) fun n => .leaf (.ret [.osl 0 1 0 (canon n).length] [.arr (o.length + 1) 1 (appG o.length (natG .u32 o) (zh (zc 1 [.int .u32 c]) 0)), .arr 1 1 (zc 1 [.int .u32 c])])))) (by kernel_rfl) ?_
 simp only [Tree.holds, zd, inR, lo, hi, Int.toNat_natCast, kq]
 have ha := zA (zg x) o.length
 have hb := zA (zg y) o.length
 have hnext : ∀ d c' : Nat, d < B → c' ≤ 1 → o.length < (canon x).length → d + B * c' = (canon x).getD o.length 0 + (canon y).getD o.length 0 + c →
   ∃ s : IPl x y, s.o = o ++ [d] ∧ s.c = c' ∧ s.i = o.length + 1 := fun d c' h1 h2 h3 h4 =>
  ⟨⟨o ++ [d], c', o.length + 1, by simp, h3, qD.2 ⟨hd, by simp [dig, h1]⟩, h2, by rw [uQ]; exact UH (x := x) (y := y) he h4⟩, rfl, rfl, rfl⟩
 have hdiv : ∀ v : Nat, (v : Int).tdiv 1000000000 = ((v / B : Nat) : Int) ∧ (v : Int).tmod 1000000000 = ((v % B : Nat) : Int) := fun v => ⟨rfl, rfl⟩
 have hq2 : ∀ v : Nat, v < 2 * B → v / B ≤ 1 ∧ v % B < B ∧ v % B + B * (v / B) = v := fun v hv => ⟨by have := Nat.div_lt_of_lt_mul (show v < B * 2 by omega); omega, Nat.mod_lt _ (by omega), Nat.mod_add_div _ _⟩
 refine ⟨fun hlt => ?_, fun hge => ?_⟩
 ·have hlt : o.length < (canon x).length := by have := of_decide_eq_true hlt; omega
  refine ⟨by omega, fun _ => ⟨by omega, fun _ => ⟨fun hb2 => ?_, fun hb2 => ?_⟩⟩⟩
  ·have hb2 : o.length < (canon y).length := by have := of_decide_eq_true hb2; omega
   refine ⟨by omega, fun _ => ⟨by omega, fun _ => ?_⟩⟩
   obtain ⟨v, hv⟩ : ∃ v, (canon x).getD o.length 0 + c + (canon y).getD o.length 0 = v := ⟨_, rfl⟩
   have ev : (((canon x).getD o.length 0 : Nat) : Int) + (c : Int) + (((canon y).getD o.length 0 : Nat) : Int) = (v : Int) := by omega
   rw [ev, (hdiv v).1, (hdiv v).2]
   obtain ⟨g1, g2, g3⟩ := hq2 v (by omega)
   generalize v / B = q at g1 g3 ⊢
   generalize v % B = r at g2 g3 ⊢
   refine ⟨⟨by decide, by omega, by omega⟩, fun _ => ⟨by decide, fun _ => ⟨⟨trivial, Nat.le_refl _, by omega⟩, fun _ => ⟨by omega, fun _ => ?_⟩⟩⟩⟩
   obtain ⟨s, h1, h2, h3⟩ := hnext r q g2 g1 hlt (by omega)
   rw [if_pos trivial]
   exact ⟨s, by show _ - s.i < _; omega, by simp [SPl, h1, h2, h3, magS, natS, za], by rw [h1]; exact wi rfl, by kernel_rfl, Nat.zero_le _⟩
  ·have hb2 : (canon y).length ≤ o.length := by have := of_decide_eq_false hb2; omega
   have hb0 : (canon y).getD o.length 0 = 0 := by simp [List.getD, List.getElem?_eq_none hb2]
   obtain ⟨v, hv⟩ : ∃ v, (canon x).getD o.length 0 + c = v := ⟨_, rfl⟩
   have ev : (((canon x).getD o.length 0 : Nat) : Int) + (c : Int) = (v : Int) := by omega
   rw [ev, (hdiv v).1, (hdiv v).2]
   obtain ⟨g1, g2, g3⟩ := hq2 v (by omega)
   generalize v / B = q at g1 g3 ⊢
   generalize v % B = r at g2 g3 ⊢
   refine ⟨⟨by decide, by omega, by omega⟩, fun _ => ⟨by decide, fun _ => ⟨⟨trivial, Nat.le_refl _, by omega⟩, fun _ => ⟨by omega, fun _ => ?_⟩⟩⟩⟩
   obtain ⟨s, h1, h2, h3⟩ := hnext r q g2 g1 hlt (by omega)
   rw [if_pos trivial]
   exact ⟨s, by show _ - s.i < _; omega, by simp [SPl, h1, h2, h3, magS, natS, za], by rw [h1]; exact wi rfl, by kernel_rfl, Nat.zero_le _⟩
 ·have hge : o.length = (canon x).length := by have := of_decide_eq_false hge; omega
  have hv : val (o ++ [c]) = x + y := by
   rw [uQ]
   rw [hge, List.take_length, List.take_of_length_le hlen, zi, zi] at he
   rw [hge]; exact he
  have hdo : dig (o ++ [c]) := qD.2 ⟨hd, by simp [dig]; omega⟩
  have hpush : eqG (o.length + 1) 1 (appG o.length (natG .u32 o) (zh (zc 1 [.int .u32 (c : Int)]) 0)) (natG .u32 (o ++ [c])) := by
   have := xq (k := .u32) (l := o) (v := (c : Int)) (by omega)
   simpa using this
  have hall : List.take (o.length + 1) (List.drop 0 (o ++ [c])) = o ++ [c] := by rw [List.drop_zero]; exact List.take_of_length_le (by simp)
  refine ⟨⟨trivial, Nat.le_refl _, by omega⟩, fun _ => ⟨o ++ [c], ⟨by simp, by omega, by omega, hpush, by rw [hall]; exact hdo⟩, ⟨_, rfl⟩, ?_⟩⟩
  intro X hX
  have hX : X = x + y := by rw [hX, hall, hv]
  subst hX
  have htr : qg (o ++ [c]) = canon (x + y) := by rw [zD hdo, hv]
  have htl : (canon (x + y)).length = tlen (o ++ [c]) := by rw [← htr, qg, List.length_take]; have := zO (o ++ [c]); omega
  rw [htl]
  have hle2 := zO (o ++ [c])
  have hln : (o ++ [c]).length = o.length + 1 := by simp
  refine RetR.zao (l := canon (x + y)) (k := .u32) hq rfl (by omega) htl fun j hj => ?_
  have := hpush j 0 (by omega) (by omega)
  rw [this, ← htr]
  simp only [natG, qg]
  rw [V5 hj]
theorem VS : ze Try.prog 84 V9 := by
 refine xA (fn := Try.f84) (c := Try.f84.body.getD .skip) rfl rfl rfl fun x y hp O w0 Q hq => ?_
 replace hq := hq _ rfl
 obtain ⟨hx, hy⟩ := hp
 refine zb.run hmix xj [1, 5, 6, 21, 22, 23] 400 (T := .ite (decide ((↑(canon x).length : Int) < (↑(canon y).length : Int))) (.side (inR .i64 ((↑(canon y).length : Int) + (1 : Int))) (.side ((0 : Int) ≤ 0 ∧ (0 : Int) ≤ (↑(canon y).length : Int) + (1 : Int) ∧ inR .i64 ((↑(canon y).length : Int) + (1 : Int)) ∧ Int.toNat ((↑(canon y).length : Int) + (1 : Int)) * 4 ≤ 140737488355328) (.leaf (.loop (Prod.fst (lps K84 0)) (Prod.snd (lps K84 0)) [(1, .sl (canon x).length 1 (natG .u32 (canon x))), (5, .osl 0 1 0 0), (6, .int .u32 0), (21, .sl (canon y).length 1 (natG .u32 (canon y))), (22, .int .i64 (↑(canon y).length : Int)), (23, .int .i64 0)] [.arr 0 1 (jS [.int .u32 0])])))) (.side (inR .i64 ((↑(canon x).length : Int) + (1 : Int))) (.side ((0 : Int) ≤ 0 ∧ (0 : Int) ≤ (↑(canon x).length : Int) + (1 : Int) ∧ inR .i64 ((↑(canon x).length : Int) + (1 : Int)) ∧ Int.toNat ((↑(canon x).length : Int) + (1 : Int)) * 4 ≤ 140737488355328) (.leaf (.loop (Prod.fst (lps K84 0)) (Prod.snd (lps K84 0)) [(1, .sl (canon y).length 1 (natG .u32 (canon y))), (5, .osl 0 1 0 0), (6, .int .u32 0), (21, .sl (canon x).length 1 (natG .u32 (canon x))), (22, .int .i64 (↑(canon x).length : Int)), (23, .int .i64 0)] [.arr 0 1 (jS [.int .u32 0])]))))) (by kernel_rfl) ?_
 simp only [Tree.holds, zd, inR, lo, hi]
 refine ⟨fun h => ?_, fun h => ?_⟩
 ·have h : (canon x).length < (canon y).length := by have := of_decide_eq_true h; omega
  refine ⟨by omega, fun _ => ⟨⟨by omega, by omega, by omega, by omega⟩, fun _ => ?_⟩⟩
  rw [Nat.add_comm] at hq
  exact Js y x hy (by omega) hq _ _ ⟨by simp [SPl, magS, natS, za], by simp [eqG], by kernel_rfl, Nat.zero_le _⟩
 ·have h : (canon y).length ≤ (canon x).length := by have := of_decide_eq_false h; omega
  refine ⟨by omega, fun _ => ⟨⟨by omega, by omega, by omega, by omega⟩, fun _ => ?_⟩⟩
  exact Js x y hx h hq _ _ ⟨by simp [SPl, magS, natS, za], by simp [eqG], by kernel_rfl, Nat.zero_le _⟩
end Go.Proofs.Try
end

/- The integers: sums, products, comparisons. -/
section
set_option maxRecDepth 100000
open Go Go.Sx Go.Proofs Go.Nov
namespace Go.Proofs.Try
attribute [local simp] eqKV eqA eqA0 eqH eqB eqL eqL0
def U2 : Ctr := ctrP false (fun p : Bool × Nat => [.bool p.1, magS p.2]) (fun _ => True) (fun p r => r = (p.1 && decide (0 < p.2), p.2)) (fun _ (r : Bool × Nat) => (numV r.1 r.2, []))
theorem yT {x : Nat} : decide (0 < ((canon x).length : Int)) = decide (0 < x) := by
 by_cases h : x = 0
 ·subst h; simp [canon]
 ·have h1 : 0 < x := Nat.pos_of_ne_zero h
  have h2 : (canon x).length ≠ 0 := fun h2 => h (kB.1 h2)
  rw [decide_eq_true (by omega), decide_eq_true h1]
theorem RetR.numV {ctr : Ctr} {Q : AV × Heap → Prop} {h : Heap} {b : Bool} {x : Nat} (hf : ctr.fresh = false) (hq : Q (numV b x, [])) : RetR ctr 0 Q [.agg [.bool b, magS x]] h := by
 refine RetR.out0 hq (fun h => by rw [hf] at h; cases h) ?_
 simp [resV, exp2, exp1, exp0, ren0, frz1, eqA2, eqL1, eqA, eqL0, eqA0, Try.numV, magS, natS, za]
theorem YY : ze Try.prog 83 U2 := by
 refine zr (fn := Try.f83) (c := Try.f83.body.getD .skip) rfl rfl rfl fun p hp O w0 Q hq => ?_
 obtain ⟨b, x⟩ := p
 replace hq := hq _ rfl
 refine zb.run hmix zG [] 400 (T := .leaf (.ret [.agg [.bool (bif b then decide ((0 : Int) < (↑(canon x).length : Int)) else false), .sl (canon x).length 1 (natG .u32 (canon x))]] [.box [.bool (bif b then decide ((0 : Int) < (↑(canon x).length : Int)) else false), .sl (canon x).length 1 (natG .u32 (canon x))]])) (by kernel_rfl) ?_
 simp only [Tree.holds, zd]
 rw [yT]
 have e : (bif b then decide (0 < x) else false) = (b && decide (0 < x)) := by cases b <;> rfl
 rw [e]
 exact RetR.numV rfl hq
def sumC : Ctr := ctrP false (fun p : (Bool × Nat) × (Bool × Nat) => [numV p.1.1 p.1.2, numV p.2.1 p.2.2]) (fun p => (canon p.1.2).length < 100000 ∧ (canon p.2.2).length < 100000)
 (fun p r => r = ((sumS p.1.1 p.1.2 p.2.1 p.2.2).1 && decide (0 < (sumS p.1.1 p.1.2 p.2.1 p.2.2).2), (sumS p.1.1 p.1.2 p.2.1 p.2.2).2)) (fun _ (r : Bool × Nat) => (numV r.1 r.2, []))
noncomputable def GSu : Nat → Option Ctr := fun f => if f = 83 then some (U2) else if f = 84 then some (V9) else if f = 85 then some (x5) else if f = 86 then some (Qz) else none
theorem zac : ∀ g c, GSu g = some c → ze Try.prog g c := okIf YY (okIf VS (okIf kV (okIf ub (zz))))
theorem Q7 : ze Try.prog 68 sumC := by
 refine zr (fn := Try.f68) (c := Try.f68.body.getD .skip) rfl rfl rfl fun p hp O w0 Q hq => ?_
 obtain ⟨⟨m, x⟩, ⟨n, y⟩⟩ := p
 obtain ⟨h1, h2⟩ := hp
 replace hq := hq _ rfl
 simp only at h1 h2 hq
 refine zb.run hmix zac [] 400 (T := .ite (m == n) (.ex (fun (x_1 : Nat × Nat) => eqL [AV.sl (canon x).length 1 (natG .u32 (canon x)), AV.sl (canon y).length 1 (natG .u32 (canon y))] [AV.sl (canon x_1.1).length 1 (natG .u32 (canon x_1.1)), AV.sl (canon x_1.2).length 1 (natG .u32 (canon x_1.2))] ∧ List.length (canon x_1.1) < 100000 ∧ List.length (canon x_1.2) < 100000) fun n_1 => .all (fun (d : Nat) => d = n_1.1 + n_1.2) fun n_2 => .ex (fun (x : Bool × Nat) => eqL [AV.bool m, AV.sl (canon n_2).length 1 (natG .u32 (canon n_2))] [AV.bool x.1, AV.sl (canon x.2).length 1 (natG .u32 (canon x.2))] ∧ True) fun n_3 => .all (fun (r : Bool × Nat) => r = (n_3.1 && decide (0 < n_3.2), n_3.2)) fun n_4 => .leaf (.ret [.agg [.bool n_4.1, .sl (canon n_4.2).length 1 (natG .u32 (canon n_4.2))]] [.box [.bool m, .sl (canon x).length 1 (natG .u32 (canon x))], .box [.bool n, .sl (canon y).length 1 (natG .u32 (canon y))], .box [.bool n_4.1, .sl (canon n_4.2).length 1 (natG .u32 (canon n_4.2))]])) (.ex (fun (x_1 : Nat × Nat) => eqL [AV.sl (canon x).length 1 (natG .u32 (canon x)), AV.sl (canon y).length 1 (natG .u32 (canon y))] [AV.sl (canon x_1.1).length 1 (natG .u32 (canon x_1.1)), AV.sl (canon x_1.2).length 1 (natG .u32 (canon x_1.2))] ∧ fits x_1.1 ∧ fits x_1.2) fun n_1 => .all (fun (r : Int) => r = cmp3 n_1.1 n_1.2) fun n_2 => .ite (decide ((0 : Int) ≤ n_2)) (.ex (fun (x_1 : Nat × Nat) => eqL [AV.sl (canon x).length 1 (natG .u32 (canon x)), AV.sl (canon y).length 1 (natG .u32 (canon y))] [AV.sl (canon x_1.1).length 1 (natG .u32 (canon x_1.1)), AV.sl (canon x_1.2).length 1 (natG .u32 (canon x_1.2))] ∧ fits x_1.1 ∧ x_1.2 ≤ x_1.1) fun n_3 => .all (fun (d : Nat) => d = n_3.1 - n_3.2) fun n_4 => .ex (fun (x : Bool × Nat) => eqL [AV.bool m, AV.sl (canon n_4).length 1 (natG .u32 (canon n_4))] [AV.bool x.1, AV.sl (canon x.2).length 1 (natG .u32 (canon x.2))] ∧ True) fun n_5 => .all (fun (r : Bool × Nat) => r = (n_5.1 && decide (0 < n_5.2), n_5.2)) fun n_6 => .leaf (.ret [.agg [.bool n_6.1, .sl (canon n_6.2).length 1 (natG .u32 (canon n_6.2))]] [.box [.bool m, .sl (canon x).length 1 (natG .u32 (canon x))], .box [.bool n, .sl (canon y).length 1 (natG .u32 (canon y))], .box [.bool n_6.1, .sl (canon n_6.2).length 1 (natG .u32 (canon n_6.2))]])) (.ex (fun (x_1 : Nat × Nat) => eqL [AV.sl (canon y).length 1 (natG .u32 (canon y)), AV.sl (canon x).length 1 (natG .u32 (canon x))] [AV.sl (canon x_1.1).length 1 (natG .u32 (canon x_1.1)), AV.sl (canon x_1.2).length 1 (natG .u32 (canon x_1.2))] ∧ fits x_1.1 ∧ x_1.2 ≤ x_1.1) fun n_3 => .all (fun (d : Nat) => d = n_3.1 - n_3.2) fun n_4 => .ex (fun (x : Bool × Nat) => eqL [AV.bool n, AV.sl (canon n_4).length 1 (natG .u32 (canon n_4))] [AV.bool x.1, AV.sl (canon x.2).length 1 (natG .u32 (canon x.2))] ∧ True) fun n_5 => .all (fun (r : Bool × Nat) => r = (n_5.1 && decide (0 < n_5.2), n_5.2)) fun n_6 => .leaf (.ret [.agg [.bool n_6.1, .sl (canon n_6.2).length 1 (natG .u32 (canon n_6.2))]] [.box [.bool m, .sl (canon x).length 1 (natG .u32 (canon x))], .box [.bool n, .sl (canon y).length 1 (natG .u32 (canon y))], .box [.bool n_6.1, .sl (canon n_6.2).length 1 (natG .u32 (canon n_6.2))]])))) (by kernel_rfl) ?_
 simp only [Tree.holds, zd]
 have eL : ∀ a b : Nat, eqL [AV.sl (canon a).length 1 (natG .u32 (canon a)), AV.sl (canon b).length 1 (natG .u32 (canon b))] [AV.sl (canon a).length 1 (natG .u32 (canon a)), AV.sl (canon b).length 1 (natG .u32 (canon b))] := fun a b => ⟨⟨rfl, rfl, za _ _ _⟩, ⟨rfl, rfl, za _ _ _⟩, trivial⟩
 have eK : ∀ (b : Bool) (a : Nat), eqL [AV.bool b, AV.sl (canon a).length 1 (natG .u32 (canon a))] [AV.bool b, AV.sl (canon a).length 1 (natG .u32 (canon a))] := fun b a => ⟨rfl, ⟨rfl, rfl, za _ _ _⟩, trivial⟩
 have hcm : ∀ v, v = cmp3 x y → (0 ≤ v ↔ y ≤ x) := by
  rintro v rfl
  unfold cmp3
  split
  ·exact ⟨fun h => by omega, fun h => by omega⟩
  ·split
   ·exact ⟨fun h => by omega, fun h => by omega⟩
   ·exact ⟨fun h => by omega, fun h => by omega⟩
 refine ⟨fun h => ?_, fun h => ⟨(x, y), ⟨eL x y, by show (canon x).length < _; omega, by show (canon y).length < _; omega⟩, ⟨_, rfl⟩, ?_⟩⟩
 ·have h : m = n := by simpa using h
  refine ⟨(x, y), ⟨eL x y, h1, h2⟩, ⟨_, rfl⟩, ?_⟩
  rintro _ rfl
  refine ⟨(m, x + y), ⟨eK m _, trivial⟩, ⟨_, rfl⟩, ?_⟩
  rintro _ rfl
  have e : sumS m x n y = (m, x + y) := if_pos h
  rw [e] at hq
  exact RetR.numV rfl hq
 ·have h : ¬ m = n := by simpa using h
  intro v hv
  have hv := hcm v hv
  refine ⟨fun g => ?_, fun g => ?_⟩
  ·have g : y ≤ x := hv.1 (of_decide_eq_true g)
   refine ⟨(x, y), ⟨eL x y, by show (canon x).length < _; omega, g⟩, ⟨_, rfl⟩, ?_⟩
   rintro _ rfl
   refine ⟨(m, x - y), ⟨eK m _, trivial⟩, ⟨_, rfl⟩, ?_⟩
   rintro _ rfl
   have e : sumS m x n y = (m, x - y) := by rw [sumS, if_neg h, if_pos g]
   rw [e] at hq
   exact RetR.numV rfl hq
  ·have g : ¬ y ≤ x := fun h3 => of_decide_eq_false g (hv.2 h3)
   refine ⟨(y, x), ⟨eL y x, by show (canon y).length < _; omega, by show x ≤ y; omega⟩, ⟨_, rfl⟩, ?_⟩
   rintro _ rfl
   refine ⟨(n, y - x), ⟨eK n _, trivial⟩, ⟨_, rfl⟩, ?_⟩
   rintro _ rfl
   have e : sumS m x n y = (n, y - x) := by rw [sumS, if_neg h, if_neg g]
   rw [e] at hq
   exact RetR.numV rfl hq
theorem zS {x n : Nat} (h : x < B ^ n) (hn : n < 100000) : (canon x).length < 100000 := by have := zq h; omega
theorem qV {s : List UInt8} (h : errI s = 0) : numI s < B ^ 112 := jm.2 (kS h)
theorem Xx {x y : Nat} (hx : x < B ^ 112) (hy : y < B ^ 112) : x + y < B ^ 113 ∧ x * y < B ^ 224 := by
 constructor
 ·have : B ^ 113 = B ^ 112 * B := Nat.pow_succ B 112
  have hB : B = 1000000000 := rfl
  generalize B ^ 112 = p at *
  rw [this, hB]; omega
 ·have : B ^ 224 = B ^ 112 * B ^ 112 := by rw [← Nat.pow_add]
  rw [this]
  exact Nat.mul_lt_mul_of_lt_of_lt hx hy
noncomputable def GAd : Nat → Option Ctr := fun f => if f = 65 then some (yu) else if f = 68 then some (sumC) else if f = 66 then some (yL) else if f = 67 then some (Vf) else if f = 85 then some (x5) else none
theorem Ww : ∀ g c, GAd g = some c → ze Try.prog g c := okIf Qy (okIf Q7 (okIf u2 (okIf Jp (okIf kV (zz)))))
def addC : Ctr := ctrP true (fun p : List UInt8 × List UInt8 => [.str p.1, .str p.2]) (fun p => p.1.length < 2 ^ 62 ∧ p.2.length < 2 ^ 62) (fun p r => r = addI p.1 p.2) (fun _ r => (.tup [.str r.1, .int .i64 r.2], []))
def subC : Ctr := ctrP true (fun p : List UInt8 × List UInt8 => [.str p.1, .str p.2]) (fun p => p.1.length < 2 ^ 62 ∧ p.2.length < 2 ^ 62) (fun p r => r = subI p.1 p.2) (fun _ r => (.tup [.str r.1, .int .i64 r.2], []))
def mulC : Ctr := ctrP true (fun p : List UInt8 × List UInt8 => [.str p.1, .str p.2]) (fun p => p.1.length < 2 ^ 62 ∧ p.2.length < 2 ^ 62) (fun p r => r = mulI p.1 p.2) (fun _ r => (.tup [.str r.1, .int .i64 r.2], []))
theorem UF : ze Try.prog 46 addC := by
 refine zr (fn := Try.f46) (c := Try.f46.body.getD .skip) rfl rfl rfl fun p hp O w0 Q hq => ?_
 obtain ⟨s, t⟩ := p
 obtain ⟨hs, ht⟩ := hp
 replace hq := hq _ rfl
 simp only at hs ht hq
 refine zb.run hmix Ww [] 400 (T := .ex (fun (x : List UInt8 × List UInt8) => eqL [AV.str s, AV.str t] [AV.str x.1, AV.str x.2] ∧ x.1.length < 4611686018427387904 ∧ x.2.length < 4611686018427387904) fun n => .all (fun (r : Int × (Bool × Nat) × Bool × Nat) => r = if zp n.1 n.2 = 0 then ((0 : Int), (negI n.1, numI n.1), negI n.2, numI n.2) else (zp n.1 n.2, (false, 0), false, 0)) fun n => .ite (!decide (n.1 = 0)) (.leaf (.ret [.str (Array.toList #[]), .int .i64 n.1] [.box [.bool (Prod.fst (n.2.1)), .sl (List.length (canon (Prod.snd (n.2.1)))) 1 (natG .u32 (canon (Prod.snd (n.2.1))))], .box [.bool (Prod.fst (n.2.2)), .sl (List.length (canon (Prod.snd (n.2.2)))) 1 (natG .u32 (canon (Prod.snd (n.2.2))))]])) (.ex (fun (x : (Bool × Nat) × Bool × Nat) => eqL [AV.agg [AV.bool (Prod.fst (n.2.1)), AV.sl (List.length (canon (Prod.snd (n.2.1)))) 1 (natG .u32 (canon (Prod.snd (n.2.1))))], AV.agg [AV.bool (Prod.fst (n.2.2)), AV.sl (List.length (canon (Prod.snd (n.2.2)))) 1 (natG .u32 (canon (Prod.snd (n.2.2))))]] [AV.agg [AV.bool (x.1.1), AV.sl (canon x.1.2).length 1 (natG .u32 (canon x.1.2))], AV.agg [AV.bool (x.2.1), AV.sl (List.length (canon (x.2.2))) 1 (natG .u32 (canon (x.2.2)))]] ∧ List.length (canon x.1.2) < 100000 ∧ List.length (canon (x.2.2)) < 100000) fun n_1 => .all (fun (r : Bool × Nat) => r = (Prod.fst (sumS (n_1.1.1) n_1.1.2 (n_1.2.1) (n_1.2.2)) && decide (0 < Prod.snd (sumS (n_1.1.1) n_1.1.2 (n_1.2.1) (n_1.2.2))), Prod.snd (sumS (n_1.1.1) n_1.1.2 (n_1.2.1) (n_1.2.2)))) fun n_2 => .ex (fun (x : Bool × Nat) => eqL [AV.agg [AV.bool n_2.1, AV.sl (canon n_2.2).length 1 (natG .u32 (canon n_2.2))]] [AV.agg [AV.bool x.1, AV.sl (canon x.2).length 1 (natG .u32 (canon x.2))]] ∧ List.length (canon x.2) < 1000000) fun n_3 => .all (fun (r : List UInt8 × Int) => r = wr n_3.1 n_3.2) fun n_4 => .leaf (.ret [.str n_4.1, .int .i64 n_4.2] [.box [.bool (Prod.fst (n.2.1)), .sl (List.length (canon (Prod.snd (n.2.1)))) 1 (natG .u32 (canon (Prod.snd (n.2.1))))], .box [.bool (Prod.fst (n.2.2)), .sl (List.length (canon (Prod.snd (n.2.2)))) 1 (natG .u32 (canon (Prod.snd (n.2.2))))]]))) (by kernel_rfl) ?_
 simp only [Tree.holds, zd]
 refine ⟨(s, t), ⟨by simp, by omega, by omega⟩, ⟨_, rfl⟩, ?_⟩
 rintro _ rfl
 simp only
 by_cases he : zp s t = 0
 ·obtain ⟨e1, e2⟩ := zl.1 he
  obtain ⟨b1, b2⟩ := Xx (qV e1) (qV e2)
  have c1 := zS (qV e1) (by decide)
  have c2 := zS (qV e2) (by decide)
  simp only [if_pos he]
  refine ⟨fun h => (by simp at h), fun _ => ?_⟩
  refine ⟨((negI s, numI s), (negI t, numI t)), ⟨⟨⟨rfl, ⟨rfl, rfl, za _ _ _⟩, trivial⟩, ⟨rfl, ⟨rfl, rfl, za _ _ _⟩, trivial⟩, trivial⟩, c1, c2⟩, ⟨_, rfl⟩, ?_⟩
  rintro _ rfl
  refine ⟨((sumS (negI s) (numI s) (negI t) (numI t)).1 && decide (0 < (sumS (negI s) (numI s) (negI t) (numI t)).2), (sumS (negI s) (numI s) (negI t) (numI t)).2), ⟨⟨⟨rfl, ⟨rfl, rfl, za _ _ _⟩, trivial⟩, trivial⟩, ?_⟩, ⟨_, rfl⟩, ?_⟩
  ·have := zS (Nat.lt_of_le_of_lt (VI (negI s) (numI s) (negI t) (numI t)) b1) (by decide)
   show (canon (sumS (negI s) (numI s) (negI t) (numI t)).2).length < 1000000
   omega
  rintro _ rfl
  rw [VP]
  have e : addI s t = wr (sumS (negI s) (numI s) (negI t) (numI t)).1 (sumS (negI s) (numI s) (negI t) (numI t)).2 := if_pos he
  rw [e] at hq
  exact RetR.scal hq rfl (by simp [resV])
 ·simp only [if_neg he]
  refine ⟨fun _ => ?_, fun h => (by simp [he] at h)⟩
  have e : addI s t = ([], zp s t) := if_neg he
  rw [e] at hq
  exact RetR.scal hq rfl (by simp [resV])
theorem UT : ze Try.prog 48 subC := by
 refine zr (fn := Try.f48) (c := Try.f48.body.getD .skip) rfl rfl rfl fun p hp O w0 Q hq => ?_
 obtain ⟨s, t⟩ := p
 obtain ⟨hs, ht⟩ := hp
 replace hq := hq _ rfl
 simp only at hs ht hq
 refine zb.run hmix Ww [] 400 (T := .ex (fun (x : List UInt8 × List UInt8) => eqL [AV.str s, AV.str t] [AV.str x.1, AV.str x.2] ∧ x.1.length < 4611686018427387904 ∧ x.2.length < 4611686018427387904) fun n => .all (fun (r : Int × (Bool × Nat) × Bool × Nat) => r = if zp n.1 n.2 = 0 then ((0 : Int), (negI n.1, numI n.1), negI n.2, numI n.2) else (zp n.1 n.2, (false, 0), false, 0)) fun n => .ite (!decide (n.1 = 0)) (.leaf (.ret [.str (Array.toList #[]), .int .i64 n.1] [.box [.bool (Prod.fst (n.2.1)), .sl (List.length (canon (Prod.snd (n.2.1)))) 1 (natG .u32 (canon (Prod.snd (n.2.1))))], .box [.bool (Prod.fst (n.2.2)), .sl (List.length (canon (Prod.snd (n.2.2)))) 1 (natG .u32 (canon (Prod.snd (n.2.2))))]])) (.ex (fun (x : (Bool × Nat) × Bool × Nat) => eqL [AV.agg [AV.bool (Prod.fst (n.2.1)), AV.sl (List.length (canon (Prod.snd (n.2.1)))) 1 (natG .u32 (canon (Prod.snd (n.2.1))))], AV.agg [AV.bool (bif !Prod.fst (n.2.2) then decide ((0 : Int) < (↑(List.length (canon (Prod.snd (n.2.2)))) : Int)) else false), AV.sl (List.length (canon (Prod.snd (n.2.2)))) 1 (natG .u32 (canon (Prod.snd (n.2.2))))]] [AV.agg [AV.bool (x.1.1), AV.sl (canon x.1.2).length 1 (natG .u32 (canon x.1.2))], AV.agg [AV.bool (x.2.1), AV.sl (List.length (canon (x.2.2))) 1 (natG .u32 (canon (x.2.2)))]] ∧ List.length (canon x.1.2) < 100000 ∧ List.length (canon (x.2.2)) < 100000) fun n_1 => .all (fun (r : Bool × Nat) => r = (Prod.fst (sumS (n_1.1.1) n_1.1.2 (n_1.2.1) (n_1.2.2)) && decide (0 < Prod.snd (sumS (n_1.1.1) n_1.1.2 (n_1.2.1) (n_1.2.2))), Prod.snd (sumS (n_1.1.1) n_1.1.2 (n_1.2.1) (n_1.2.2)))) fun n_2 => .ex (fun (x : Bool × Nat) => eqL [AV.agg [AV.bool n_2.1, AV.sl (canon n_2.2).length 1 (natG .u32 (canon n_2.2))]] [AV.agg [AV.bool x.1, AV.sl (canon x.2).length 1 (natG .u32 (canon x.2))]] ∧ List.length (canon x.2) < 1000000) fun n_3 => .all (fun (r : List UInt8 × Int) => r = wr n_3.1 n_3.2) fun n_4 => .leaf (.ret [.str n_4.1, .int .i64 n_4.2] [.box [.bool (Prod.fst (n.2.1)), .sl (List.length (canon (Prod.snd (n.2.1)))) 1 (natG .u32 (canon (Prod.snd (n.2.1))))], .box [.bool (bif !Prod.fst (n.2.2) then decide ((0 : Int) < (↑(List.length (canon (Prod.snd (n.2.2)))) : Int)) else false), .sl (List.length (canon (Prod.snd (n.2.2)))) 1 (natG .u32 (canon (Prod.snd (n.2.2))))]]))) (by kernel_rfl) ?_
 simp only [Tree.holds, zd]
 refine ⟨(s, t), ⟨by simp, by omega, by omega⟩, ⟨_, rfl⟩, ?_⟩
 rintro _ rfl
 simp only
 by_cases he : zp s t = 0
 ·obtain ⟨e1, e2⟩ := zl.1 he
  obtain ⟨b1, b2⟩ := Xx (qV e1) (qV e2)
  have c1 := zS (qV e1) (by decide)
  have c2 := zS (qV e2) (by decide)
  simp only [if_pos he]
  refine ⟨fun h => (by simp at h), fun _ => ?_⟩
  have eN : (bif !negI t then decide (0 < ((canon (numI t)).length : Int)) else false) = (!negI t && decide (0 < numI t)) := by rw [yT]; cases negI t <;> rfl
  rw [eN]
  refine ⟨((negI s, numI s), (!negI t && decide (0 < numI t), numI t)), ⟨⟨⟨rfl, ⟨rfl, rfl, za _ _ _⟩, trivial⟩, ⟨rfl, ⟨rfl, rfl, za _ _ _⟩, trivial⟩, trivial⟩, c1, c2⟩, ⟨_, rfl⟩, ?_⟩
  rintro _ rfl
  simp only [KB]
  refine ⟨((sumS (negI s) (numI s) (!negI t) (numI t)).1 && decide (0 < (sumS (negI s) (numI s) (!negI t) (numI t)).2), (sumS (negI s) (numI s) (!negI t) (numI t)).2), ⟨⟨⟨rfl, ⟨rfl, rfl, za _ _ _⟩, trivial⟩, trivial⟩, ?_⟩, ⟨_, rfl⟩, ?_⟩
  ·have := zS (Nat.lt_of_le_of_lt (VI (negI s) (numI s) (!negI t) (numI t)) b1) (by decide)
   show (canon (sumS (negI s) (numI s) (!negI t) (numI t)).2).length < 1000000
   omega
  rintro _ rfl
  rw [VP]
  have e : subI s t = wr (sumS (negI s) (numI s) (!negI t) (numI t)).1 (sumS (negI s) (numI s) (!negI t) (numI t)).2 := if_pos he
  rw [e] at hq
  exact RetR.scal hq rfl (by simp [resV])
 ·simp only [if_neg he]
  refine ⟨fun _ => ?_, fun h => (by simp [he] at h)⟩
  have e : subI s t = ([], zp s t) := if_neg he
  rw [e] at hq
  exact RetR.scal hq rfl (by simp [resV])
theorem za6 : ze Try.prog 45 mulC := by
 refine zr (fn := Try.f45) (c := Try.f45.body.getD .skip) rfl rfl rfl fun p hp O w0 Q hq => ?_
 obtain ⟨s, t⟩ := p
 obtain ⟨hs, ht⟩ := hp
 replace hq := hq _ rfl
 simp only at hs ht hq
 refine zb.run hmix Ww [] 400 (T := .ex (fun (x : List UInt8 × List UInt8) => eqL [AV.str s, AV.str t] [AV.str x.1, AV.str x.2] ∧ x.1.length < 4611686018427387904 ∧ x.2.length < 4611686018427387904) fun n => .all (fun (r : Int × (Bool × Nat) × Bool × Nat) => r = if zp n.1 n.2 = 0 then ((0 : Int), (negI n.1, numI n.1), negI n.2, numI n.2) else (zp n.1 n.2, (false, 0), false, 0)) fun n => .ite (!decide (n.1 = 0)) (.leaf (.ret [.str (Array.toList #[]), .int .i64 n.1] [.box [.bool (Prod.fst (n.2.1)), .sl (List.length (canon (Prod.snd (n.2.1)))) 1 (natG .u32 (canon (Prod.snd (n.2.1))))], .box [.bool (Prod.fst (n.2.2)), .sl (List.length (canon (Prod.snd (n.2.2)))) 1 (natG .u32 (canon (Prod.snd (n.2.2))))]])) (.ex (fun (x : Nat × Nat) => eqL [AV.sl (List.length (canon (Prod.snd (n.2.1)))) 1 (natG .u32 (canon (Prod.snd (n.2.1)))), AV.sl (List.length (canon (Prod.snd (n.2.2)))) 1 (natG .u32 (canon (Prod.snd (n.2.2))))] [AV.sl (canon x.1).length 1 (natG .u32 (canon x.1)), AV.sl (canon x.2).length 1 (natG .u32 (canon x.2))] ∧ fits x.1 ∧ fits x.2) fun n_1 => .all (fun (p : Nat) => p = n_1.1 * n_1.2) fun n_2 => .ex (fun (x : Bool × Nat) => eqL [AV.agg [AV.bool !Prod.fst (n.2.1) == Prod.fst (n.2.2), AV.sl (canon n_2).length 1 (zh (natG .u32 (padN (List.length (canon n_1.1) + List.length (canon n_1.2)) n_2)) 0)]] [AV.agg [AV.bool x.1, AV.sl (canon x.2).length 1 (natG .u32 (canon x.2))]] ∧ List.length (canon x.2) < 1000000) fun n_3 => .all (fun (r : List UInt8 × Int) => r = wr n_3.1 n_3.2) fun n_4 => .leaf (.ret [.str n_4.1, .int .i64 n_4.2] [.box [.bool (Prod.fst (n.2.1)), .sl (List.length (canon (Prod.snd (n.2.1)))) 1 (natG .u32 (canon (Prod.snd (n.2.1))))], .box [.bool (Prod.fst (n.2.2)), .sl (List.length (canon (Prod.snd (n.2.2)))) 1 (natG .u32 (canon (Prod.snd (n.2.2))))], .arr (List.length (canon n_1.1) + List.length (canon n_1.2)) 1 (natG .u32 (padN (List.length (canon n_1.1) + List.length (canon n_1.2)) n_2))]))) (by kernel_rfl) ?_
 simp only [Tree.holds, zd]
 refine ⟨(s, t), ⟨by simp, by omega, by omega⟩, ⟨_, rfl⟩, ?_⟩
 rintro _ rfl
 simp only
 by_cases he : zp s t = 0
 ·obtain ⟨e1, e2⟩ := zl.1 he
  obtain ⟨b1, b2⟩ := Xx (qV e1) (qV e2)
  have c1 := zS (qV e1) (by decide)
  have c2 := zS (qV e2) (by decide)
  simp only [if_pos he]
  refine ⟨fun h => (by simp at h), fun _ => ?_⟩
  refine ⟨(numI s, numI t), ⟨⟨⟨rfl, rfl, za _ _ _⟩, ⟨rfl, rfl, za _ _ _⟩, trivial⟩, by show (canon (numI s)).length < 1000000; omega, by show (canon (numI t)).length < 1000000; omega⟩, ⟨_, rfl⟩, ?_⟩
  rintro _ rfl
  refine ⟨(negI s != negI t, numI s * numI t), ⟨⟨⟨rfl, ⟨rfl, rfl, fun j o hj ho => by simp only [zh, natG, Nat.zero_add, padN, kT hj]⟩, trivial⟩, trivial⟩, ?_⟩, ⟨_, rfl⟩, ?_⟩
  ·have := zS b2 (by decide)
   show (canon (numI s * numI t)).length < 1000000
   omega
  rintro _ rfl
  have e : mulI s t = wr (negI s != negI t) (numI s * numI t) := if_pos he
  rw [e] at hq
  exact RetR.scal hq rfl (by simp [resV])
 ·simp only [if_neg he]
  refine ⟨fun _ => ?_, fun h => (by simp [he] at h)⟩
  have e : mulI s t = ([], zp s t) := if_neg he
  rw [e] at hq
  exact RetR.scal hq rfl (by simp [resV])
end Go.Proofs.Try
end

/- Rationals as they are written. -/
section
namespace Go.Nov
def V0 (neg : Bool) (x y : Nat) : List UInt8 :=
 if y / Nat.gcd x y = 1 then (wr neg (x / Nat.gcd x y)).1 else (wr neg (x / Nat.gcd x y)).1 ++ [47] ++ (wr false (y / Nat.gcd x y)).1
def j3 (n d : List UInt8) : List UInt8 × Int := if zp n d ≠ 0 then ([], zp n d) else if numI d = 0 then ([], 16) else (V0 (negI n != negI d) (numI n) (numI d), 0)
def qX (a b : List UInt8) : Int := if errR a = 0 then errR b else errR a
def numR (a : List UInt8) : List UInt8 := (cutR a).1
def denR (a : List UInt8) : List UInt8 := if (cutR a).2.2 then (cutR a).2.1 else [49]
def frac (z w : List UInt8 × Int) : List UInt8 × Int := if z.2 ≠ 0 ∨ w.2 ≠ 0 then ([], 14) else j3 z.1 w.1
def q9 (a b : List UInt8) : Int := if qX a b ≠ 0 then qX a b else if (mulI (numR a) (denR b)).2 ≠ 0 ∨ (mulI (numR b) (denR a)).2 ≠ 0 then 14 else 0
def addR (a b : List UInt8) : List UInt8 × Int := if q9 a b ≠ 0 then ([], q9 a b) else frac (addI (mulI (numR a) (denR b)).1 (mulI (numR b) (denR a)).1) (mulI (denR a) (denR b))
def subR (a b : List UInt8) : List UInt8 × Int := if q9 a b ≠ 0 then ([], q9 a b) else frac (subI (mulI (numR a) (denR b)).1 (mulI (numR b) (denR a)).1) (mulI (denR a) (denR b))
def mulR (a b : List UInt8) : List UInt8 × Int := if qX a b ≠ 0 then ([], qX a b) else frac (mulI (numR a) (numR b)) (mulI (denR a) (denR b))
def divR (a b : List UInt8) : List UInt8 × Int := if qX a b ≠ 0 then ([], qX a b) else if numR b = [48] then ([], 16) else frac (mulI (numR a) (denR b)) (mulI (denR a) (numR b))
def cmpR (a b : List UInt8) : Int × Int := if q9 a b ≠ 0 then (0, q9 a b) else zat (mulI (numR a) (denR b)).1 (mulI (numR b) (denR a)).1
end Go.Nov
namespace Go.Nov
def dmQ (s t : List UInt8) : Nat := if negI s = true ∧ 0 < numI s % numI t then numI s / numI t + 1 else numI s / numI t
def dmM (s t : List UInt8) : Nat := if negI s = true ∧ 0 < numI s % numI t then numI t - numI s % numI t else numI s % numI t
def dmI (s t : List UInt8) : List UInt8 × List UInt8 × Int :=
 if zp s t ≠ 0 then ([], [], zp s t) else if numI t = 0 then ([], [], 16) else ((wr (negI s != negI t) (dmQ s t)).1, (wr false (dmM s t)).1, 0)
theorem YC {s : List UInt8} (h : errI s = 0) : ∃ k, k ≤ 1000 ∧ numI s < 10 ^ k := by
 obtain ⟨_, h1, _, h2⟩ := u1 h
 exact ⟨_, h2, xz h1⟩
def room (x : Nat) : Prop := (dec x).length ≤ 1000
theorem room_le {x y : Nat} (h : x ≤ y) (hy : room y) : room x := by
 rcases Nat.lt_or_ge (dec y).length (dec x).length with h1 | h1
 ·have := Ten.zJ h1
  omega
 ·exact Nat.le_trans h1 hy
theorem ja {s : List UInt8} (h : errI s = 0) : room (numI s) := by
 obtain ⟨k, h1, h2⟩ := YC h
 exact Nat.le_trans (yR h2) h1
theorem wN {neg : Bool} {x : Nat} (h : room x) : (wr neg x).2 = 0 := by
 unfold wr
 split
 ·rfl
 ·rw [if_neg (by have : (dec x).length ≤ 1000 := h; omega)]
theorem Yy {s t : List UInt8} (hs : errI s = 0) (ht : numI t ≠ 0) : room (dmQ s t) := by
 have h := ja hs
 unfold dmQ
 split
 ·rename_i hc
  by_cases h1 : numI t = 1
  ·rw [h1, Nat.mod_one] at hc; omega
  ·refine room_le ?_ h
   have h2 : numI s / numI t ≤ numI s / 2 := Nat.div_le_div_left (by omega) (by omega)
   have h3 : numI s ≠ 0 := fun h0 => by rw [h0, Nat.zero_mod] at hc; omega
   by_cases h4 : numI s = 1
   ·have : numI s / numI t = 0 := Nat.div_eq_of_lt (by omega)
    omega
   ·omega
 ·exact room_le (Nat.div_le_self _ _) h
theorem XR {s t : List UInt8} (ht : errI t = 0) (h0 : numI t ≠ 0) : room (dmM s t) := by
 have h := ja ht
 have hm := Nat.mod_lt (numI s) (Nat.pos_of_ne_zero h0)
 unfold dmM
 split
 ·exact room_le (Nat.sub_le _ _) h
 ·exact room_le (by omega) h
end Go.Nov
namespace Go.Nov
theorem vp : wr false 1 = ([49], 0) := by
 have h : dec 1 = [1] := by
  show Ten.canon 1 = [1]
  rw [Ten.qy (by decide)]
  exact congrArg (1 :: ·) Ten.z6
 simp [wr, h, txt, sgn, byt]
theorem W0 {x : Nat} (h : room x) : (wr false x).1 = [49] ↔ x = 1 := by
 constructor
 ·intro e
  have := (yp (wN (neg := false) h)).2.1
  rw [e] at this
  exact this.symm
 ·rintro rfl
  rw [vp]
theorem Y1 {x : Nat} (h0 : x ≠ 0) (h : room x) : [45] ++ (wr false x).1 = (wr true x).1 := by
 unfold wr
 rw [if_neg h0, if_neg h0, if_neg (by have : (dec x).length ≤ 1000 := h; omega), if_neg (by have : (dec x).length ≤ 1000 := h; omega)]
 rfl
theorem vR {t : List UInt8} (h : errI t = 0) : t = [48] ↔ numI t = 0 := by
 constructor
 ·rintro rfl; rfl
 ·intro h0
  obtain ⟨neg, b, h1, h2, h3, h4, h5, h6⟩ := ZZ h
  have hb : numD b = 0 := by simpa [numI, h2] using h0
  cases b with
  | nil => exact absurd rfl h5
  | cons c r =>
   have hc := h4 c (by simp)
   have e : numD (c :: r) = (c.toNat - 48) * 10 ^ r.length + numD r := by
    have := wI [c] r
    simp only [List.singleton_append] at this
    rw [this]
    simp [numD]
   rw [e] at hb
   have hc0 : c.toNat = 48 := by
    rcases Nat.eq_zero_or_pos (c.toNat - 48) with h7 | h7
    ·omega
    ·have := Nat.mul_pos h7 (Nat.pow_pos (n := r.length) (show 0 < 10 by decide))
     omega
   have hc1 : c = 48 := UInt8.toNat_inj.1 (by rw [hc0]; rfl)
   subst hc1
   have hr : r = [] := by
    cases r with
    | nil => rfl
    | cons d r =>
     have := vf (neg := neg) (b := 48 :: d :: r) rfl (by simp)
     rw [this] at h3; cases h3
   subst hr
   cases neg with
   | true => cases h3
   | false => simpa [sgn] using h1
theorem JJ {s : List UInt8} {b : Bool} {g : Nat} (hs : errI s = 0) (h0 : g ≠ 0) (hg : room g) (hd : g ∣ numI s) : dmI s (wr b g).1 = ((wr (negI s != b) (numI s / g)).1, [48], 0) := by
 obtain ⟨h1, h2, h3⟩ := yp (wN (neg := b) hg)
 have hb : negI (wr b g).1 = b := by rw [h3]; simp [h0]
 have he : zp s (wr b g).1 = 0 := zl.2 ⟨hs, h1⟩
 have hm : numI s % g = 0 := Nat.mod_eq_zero_of_dvd hd
 unfold dmI
 rw [if_neg (by rw [he]; decide), h2, if_neg h0, hb]
 have hq : dmQ s (wr b g).1 = numI s / g := by
  unfold dmQ
  rw [h2, hm, if_neg (by omega)]
 have hr : dmM s (wr b g).1 = 0 := by
  unfold dmM
  rw [h2, hm, if_neg (by omega)]
 rw [hq, hr]
 rfl
theorem Jm {s t : List UInt8} (ht : errI t = 0) (h0 : numI t ≠ 0) : Nat.gcd (numI s) (numI t) ≠ 0 ∧ room (Nat.gcd (numI s) (numI t)) := by
 have hp := Nat.pos_of_ne_zero h0
 refine ⟨fun h => ?_, room_le (Nat.le_of_dvd hp (Nat.gcd_dvd_right _ _)) (ja ht)⟩
 have := Nat.eq_zero_of_gcd_eq_zero_right h
 exact h0 this
end Go.Nov
namespace Go.Nov
theorem XT : errI [49] = 0 := rfl
theorem qp {a : List UInt8} (h : errR a = 0) : errI (numR a) = 0 ∧ errI (denR a) = 0 ∧ negI (denR a) = false ∧ numI (denR a) ≠ 0 := by
 unfold errR at h
 unfold numR denR
 cases hc : (cutR a).2.2 with
 | true =>
  rw [hc] at h
  simp only [if_true] at h ⊢
  split at h
  ·cases h
  ·rename_i h1
   simp only [not_or] at h1
   split at h
   ·cases h
   ·rename_i h2
    simp only [not_or, Classical.not_not] at h2
    refine ⟨h2.1, h2.2, by simpa using h1.2.2.1, fun h0 => ?_⟩
    exact h1.2.2.2.1 ((vR h2.2).2 h0)
 | false =>
  rw [hc] at h
  simp only [Bool.false_eq_true, if_false] at h ⊢
  have : (cutR a).1 = a := by
   unfold cutR at hc ⊢
   split at hc
   ·cases hc
   ·rename_i hn; rw [if_neg hn]
  rw [this]
  exact ⟨h, XT, rfl, by decide⟩
theorem QL (a : List UInt8) : (numR a).length ≤ a.length := (Qj a).1
theorem JS (a : List UInt8) : (denR a).length ≤ a.length + 1 := by
 unfold denR
 split
 ·exact Nat.le_trans (Qj a).2 (Nat.le_succ _)
 ·simp
theorem vW {s t : List UInt8} (h : zp s t = 0) : (mulI s t).2 = 0 ∧ errI (mulI s t).1 = 0 ∨ mulI s t = ([], 14) := by
 unfold mulI
 rw [if_pos h]
 exact (WH _ _).imp (fun h => ⟨h, (yp h).1⟩) id
theorem X2 {s t : List UInt8} (h : zp s t = 0) : (addI s t).2 = 0 ∧ errI (addI s t).1 = 0 ∨ addI s t = ([], 14) := by
 unfold addI
 rw [if_pos h]
 exact (WH _ _).imp (fun h => ⟨h, (yp h).1⟩) id
theorem Y9 {s t : List UInt8} (h : zp s t = 0) : (subI s t).2 = 0 ∧ errI (subI s t).1 = 0 ∨ subI s t = ([], 14) := by
 unfold subI
 rw [if_pos h]
 exact (WH _ _).imp (fun h => ⟨h, (yp h).1⟩) id
end Go.Nov
namespace Go.Nov
def stp (e : Int) (f : List UInt8 → List UInt8 → List UInt8 × Int) (x y : List UInt8) : List UInt8 × Int := if e ≠ 0 then ([], e) else f x y
theorem Ua {e : Int} {f : List UInt8 → List UInt8 → List UInt8 × Int} {x y : List UInt8} (h : (f x y).1.length ≤ 1001) : (stp e f x y).1.length ≤ 1001 := by
 unfold stp
 split
 ·simp
 ·exact h
theorem zY {e : Int} (h : e ≠ 0) (f : List UInt8 → List UInt8 → List UInt8 × Int) (x y : List UInt8) : stp e f x y = ([], e) := if_pos h
theorem wK (f : List UInt8 → List UInt8 → List UInt8 × Int) (x y : List UInt8) : stp 0 f x y = f x y := if_neg (by simp)
def uj (f : List UInt8 → List UInt8 → List UInt8 × Int) (a b : List UInt8) : List UInt8 × Int :=
 if q9 a b ≠ 0 then ([], q9 a b) else frac (f (mulI (numR a) (denR b)).1 (mulI (numR b) (denR a)).1) (mulI (denR a) (denR b))
section
variable {a b n m d c : List UInt8} {e : Int} (hp : (e ≠ 0 ∧ qX a b = e) ∨ (e = 0 ∧ errR a = 0 ∧ errR b = 0 ∧ n = numR a ∧ m = numR b ∧ d = denR a ∧ c = denR b))
include hp
theorem yx {f : List UInt8 → List UInt8 → List UInt8 × Int} (hf : ∀ {s t : List UInt8}, zp s t = 0 → (f s t).2 = 0 ∧ errI (f s t).1 = 0 ∨ f s t = ([], 14)) {r1 r2 r3 r4 r5 : List UInt8 × Int}
  (h1 : r1 = stp e mulI n c) (h2 : r2 = stp r1.2 mulI m d) (h3 : r3 = stp r2.2 f r1.1 r2.1) (h4 : r4 = stp r3.2 mulI d c) (h5 : r5 = stp r4.2 j3 r3.1 r4.1) : r5 = uj f a b := by
 rcases hp with ⟨he, h2e⟩ | ⟨rfl, ha, hb, rfl, rfl, rfl, rfl⟩
 ·have hc : q9 a b = e := by unfold q9; rw [if_pos (by rw [h2e]; exact he)]; exact h2e
  unfold uj
  rw [hc, if_pos he]
  rw [zY he] at h1
  subst h1
  rw [zY he] at h2
  subst h2
  rw [zY he] at h3
  subst h3
  rw [zY he] at h4
  subst h4
  rw [h5, zY he]
 ·obtain ⟨a1, a2, _⟩ := qp ha
  obtain ⟨b1, b2, _⟩ := qp hb
  have he2 : qX a b = 0 := by unfold qX; rw [if_pos ha]; exact hb
  have e14 : (14 : Int) ≠ 0 := by decide
  rw [wK] at h1
  have hc : q9 a b = if (mulI (numR a) (denR b)).2 ≠ 0 ∨ (mulI (numR b) (denR a)).2 ≠ 0 then 14 else 0 := by unfold q9; rw [if_neg (by rw [he2]; simp)]
  rcases vW (zl.2 ⟨a1, b2⟩) with ⟨g1, k1⟩ | g1
  ·rw [← h1] at g1 k1
   rw [g1, wK] at h2
   rcases vW (zl.2 ⟨b1, a2⟩) with ⟨g2, k2⟩ | g2
   ·rw [← h2] at g2 k2
    rw [g2, wK] at h3
    have hc0 : q9 a b = 0 := by rw [hc, if_neg]; rw [← h1, ← h2, g1, g2]; simp
    unfold uj
    rw [hc0, if_neg (by simp), ← h1, ← h2, ← h3]
    rcases hf (zl.2 ⟨k1, k2⟩) with ⟨g3, k3⟩ | g3
    ·rw [← h3] at g3 k3
     rw [g3, wK] at h4
     unfold frac
     rw [← h4, h5]
     rcases vW (zl.2 ⟨a2, b2⟩) with ⟨g4, k4⟩ | g4
     ·rw [← h4] at g4
      rw [g3, g4, if_neg (by simp), wK]
     ·rw [← h4] at g4
      rw [g4, if_pos (by simp), zY e14]
    ·rw [← h3] at g3
     have q4 : r4 = ([], 14) := by rw [h4, g3]; exact zY e14 _ _ _
     unfold frac
     rw [if_pos (by rw [g3]; simp), h5, q4, zY e14]
   ·rw [← h2] at g2
    have hc0 : q9 a b = 14 := by rw [hc, if_pos]; rw [← h2, g2]; simp
    unfold uj
    rw [hc0, if_pos e14]
    have q3 : r3 = ([], 14) := by rw [h3, g2]; exact zY e14 _ _ _
    have q4 : r4 = ([], 14) := by rw [h4, q3]; exact zY e14 _ _ _
    rw [h5, q4, zY e14]
  ·rw [← h1] at g1
   have hc0 : q9 a b = 14 := by rw [hc, if_pos]; rw [← h1, g1]; simp
   unfold uj
   rw [hc0, if_pos e14]
   have q2 : r2 = ([], 14) := by rw [h2, g1]; exact zY e14 _ _ _
   have q3 : r3 = ([], 14) := by rw [h3, q2]; exact zY e14 _ _ _
   have q4 : r4 = ([], 14) := by rw [h4, q3]; exact zY e14 _ _ _
   rw [h5, q4, zY e14]
theorem ZJ {x y z w : List UInt8} {r1 r2 r3 : List UInt8 × Int} (h1 : r1 = stp e mulI x y) (h2 : r2 = stp r1.2 mulI z w) (h3 : r3 = stp r2.2 j3 r1.1 r2.1)
  (hv : errR a = 0 → errR b = 0 → zp x y = 0 ∧ zp z w = 0) : r3 = if qX a b ≠ 0 then ([], qX a b) else frac (mulI x y) (mulI z w) := by
 rcases hp with ⟨he, h2e⟩ | ⟨rfl, ha, hb, _⟩
 ·rw [h2e, if_pos he]
  rw [zY he] at h1
  subst h1
  rw [zY he] at h2
  subst h2
  rw [h3, zY he]
 ·obtain ⟨v1, v2⟩ := hv ha hb
  have he2 : qX a b = 0 := by unfold qX; rw [if_pos ha]; exact hb
  have e14 : (14 : Int) ≠ 0 := by decide
  rw [he2, if_neg (by simp)]
  rw [wK] at h1
  unfold frac
  rcases vW v1 with ⟨g1, _⟩ | g1
  ·rw [← h1] at g1 ⊢
   rw [g1, wK] at h2
   rcases vW v2 with ⟨g2, _⟩ | g2
   ·rw [← h2] at g2 ⊢
    rw [g1, g2, if_neg (by simp), h3, g2, wK]
   ·rw [← h2] at g2 ⊢
    rw [g2, if_pos (by simp), h3, g2, zY e14]
  ·rw [← h1] at g1 ⊢
   have q2 : r2 = ([], 14) := by rw [h2, g1]; exact zY e14 _ _ _
   rw [g1, if_pos (by simp), h3, q2, zY e14]
end
end Go.Nov
end
