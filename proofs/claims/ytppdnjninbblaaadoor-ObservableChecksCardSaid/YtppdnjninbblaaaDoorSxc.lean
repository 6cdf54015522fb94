/- Part 3 of the proof. -/
import Derived.Test.YtppdnjninbblaaaDoorSxb
import Derived.RangeFuncNested
import Derived.RangeFuncBound
import Derived.RangeFuncCalls
import Derived.RangeFuncLeaves
import Derived.Shelf.Abstract
import Derived.Shelf.RegionOpen
import Derived.WalkKit
import Derived.OwnWalkIn
import Derived.TacticsInMore
import Derived.LoopNIn
import Derived.LoopIn
import Derived.Lib.Hide
import Derived.Laws.Strings2
import Derived.Test.YtppdnjninbblaaaDoorProg
/- The integers' magnitudes: comparison, subtraction, short division. -/
section
set_option linter.unusedVariables false
set_option linter.unusedSimpArgs false
set_option maxRecDepth 100000
open Go Go.Sx Go.Proofs Go.Nov
namespace Go.Proofs.Tryd
attribute [local simp] eqKV eqA eqA0 eqH eqB eqL eqL0
noncomputable def K53 : List Go.Sx.Item := [.code (Tryd.f53.body.getD .skip)]
noncomputable def K58 : List Go.Sx.Item := [.code (Tryd.f58.body.getD .skip)]

def cmp3 (x y : Nat) : Int := if x < y then -1 else if y < x then 1 else 0
def compareC : Ctr := ctr2 true (fun x y => fits x ∧ fits y) (fun x y r => r = cmp3 x y) (fun _ _ r => (.int .i64 r, []))
def S73 (x y k : Nat) : KV := [(0, magS x), (1, magS y), (5, .int .i64 ((k : Int) - 1))]

theorem compare_ok : CtrOK Tryd.prog 53 compareC := by
  refine fn_ctr2 (fn := Tryd.f53) (c := Tryd.f53.body.getD .skip) rfl rfl rfl fun x y hp O w0 Q hq => ?_
  replace hq := hq _ rfl
  obtain ⟨hx, hy⟩ := hp
  simp only [fits] at hx hy
  refine SafeK.run (k := K53) hmix noG_ok [0, 1, 5] 400 (T := Tree.ite (!decide ((↑(List.length (canon x)) : Int) = (↑(List.length (canon y)) : Int))) (Tree.side (inR IntKind.i64 ((↑(List.length (canon x)) : Int) - (↑(List.length (canon y)) : Int))) (Tree.leaf (Leaf2.ret [AV.int IntKind.i64 (max (-1 : Int) (min (1 : Int) ((↑(List.length (canon x)) : Int) - (↑(List.length (canon y)) : Int))))] []))) (Tree.side (inR IntKind.i64 ((↑(List.length (canon x)) : Int) - (1 : Int))) (Tree.leaf (Leaf2.loop (Prod.fst (lps K53 (0 : Nat))) (Prod.snd (lps K53 (0 : Nat))) [((0 : Nat), AV.sl (List.length (canon x)) (1 : Nat) (natG IntKind.u32 (canon x))), ((1 : Nat), AV.sl (List.length (canon y)) (1 : Nat) (natG IntKind.u32 (canon y))), ((5 : Nat), AV.int IntKind.i64 ((↑(List.length (canon x)) : Int) - (1 : Int)))] [])))) (by kernel_rfl) ?_
  simp only [Tree.holds, Leafs2, inR, lo, hi, Bool.cond_eq_ite]
  refine ⟨fun h => ⟨by omega, fun _ => RetR.scal hq rfl ?_⟩, fun h => ⟨by omega, fun _ => ?_⟩⟩
  · simp only [resV, cmp3]
    congr 1
    have hne : (canon x).length ≠ (canon y).length := by
      simp only [Bool.not_eq_true', decide_eq_false_iff_not] at h
      omega
    rcases Nat.lt_or_gt_of_ne hne with h1 | h1
    · have := canon_len_mono h1
      rw [if_pos this]; omega
    · have := canon_len_mono h1
      rw [if_neg (by omega), if_pos this]; omega
  · have hlen : (canon x).length = (canon y).length := by
      simp only [Bool.not_eq_false', decide_eq_true_eq] at h
      omega
    refine SafeK.loop (ι := {k : Nat // k ≤ (canon x).length ∧ ∀ j, k ≤ j → (canon x).getD j 0 = (canon y).getD j 0}) (fun k => S73 x y k.1) (fun _ => []) (fun k => k.1) ⟨(canon x).length, Nat.le_refl _, fun j hj => by simp [hj, hlen ▸ hj]⟩ 0 ?_ ?_ (by kernel_rfl)
    · exact ⟨by simp [S73, magS, natS, eqG_refl], by simp, by kernel_rfl, Nat.zero_le _⟩
    · rintro ⟨k, h1, h2⟩
      refine SafeK.run (k := inside K53 0) hmix noG_ok [0, 1, 5] 400 (T := Tree.ite (decide ((0 : Int) ≤ (↑k : Int) - (1 : Int))) (Tree.side ((0 : Int) ≤ (↑k : Int) - (1 : Int) ∧ (↑k : Int) - (1 : Int) < (↑(List.length (canon x)) : Int)) (Tree.side ((0 : Int) ≤ (↑k : Int) - (1 : Int) ∧ (↑k : Int) - (1 : Int) < (↑(List.length (canon y)) : Int)) (Tree.ite (!decide ((↑(List.getD (canon x) (Int.toNat ((↑k : Int) - (1 : Int))) (0 : Nat)) : Int) = (↑(List.getD (canon y) (Int.toNat ((↑k : Int) - (1 : Int))) (0 : Nat)) : Int))) (Tree.side ((0 : Int) ≤ (↑k : Int) - (1 : Int) ∧ (↑k : Int) - (1 : Int) < (↑(List.length (canon x)) : Int)) (Tree.side ((0 : Int) ≤ (↑k : Int) - (1 : Int) ∧ (↑k : Int) - (1 : Int) < (↑(List.length (canon y)) : Int)) (Tree.ite (decide ((↑(List.getD (canon x) (Int.toNat ((↑k : Int) - (1 : Int))) (0 : Nat)) : Int) < (↑(List.getD (canon y) (Int.toNat ((↑k : Int) - (1 : Int))) (0 : Nat)) : Int))) (Tree.leaf (Leaf2.ret [AV.int IntKind.i64 (-1 : Int)] [])) (Tree.leaf (Leaf2.ret [AV.int IntKind.i64 (1 : Int)] []))))) (Tree.side (inR IntKind.i64 ((↑k : Int) - (1 : Int) - (1 : Int))) (Tree.leaf (Leaf2.back (0 : Nat) [((0 : Nat), AV.sl (List.length (canon x)) (1 : Nat) (natG IntKind.u32 (canon x))), ((1 : Nat), AV.sl (List.length (canon y)) (1 : Nat) (natG IntKind.u32 (canon y))), ((5 : Nat), AV.int IntKind.i64 ((↑k : Int) - (1 : Int) - (1 : Int)))] [])))))) (Tree.leaf (Leaf2.ret [AV.int IntKind.i64 (0 : Int)] []))) (by kernel_rfl) ?_
      simp only [Tree.holds, Leafs2, inR, lo, hi, Bool.cond_eq_ite]
      have e : ((k : Int) - 1).toNat = k - 1 := by omega
      rw [e]
      refine ⟨fun hk => ?_, fun hk => RetR.scal hq rfl ?_⟩
      · have hk : 0 < k := by simp at hk; omega
        refine ⟨by omega, fun _ => ⟨by omega, fun _ => ⟨fun hne => ⟨by omega, fun _ => ⟨by omega, fun _ => ⟨fun hlt => RetR.scal hq rfl ?_, fun hlt => RetR.scal hq rfl ?_⟩⟩⟩, fun heq => ⟨by omega, fun _ => ?_⟩⟩⟩⟩
        · have := val_lt_of (dig_canon x) hlen (i := k - 1) (fun j hj => h2 j (by omega)) (by simpa using hlt)
          rw [val_canon, val_canon] at this
          simp [resV, cmp3, this]
        · have hgt : (canon y).getD (k - 1) 0 < (canon x).getD (k - 1) 0 := by
            simp only [Bool.not_eq_true', decide_eq_false_iff_not] at hne hlt
            omega
          have := val_lt_of (dig_canon y) hlen.symm (i := k - 1) (fun j hj => (h2 j (by omega)).symm) hgt
          rw [val_canon, val_canon] at this
          simp only [resV, cmp3]
          rw [if_neg (by omega), if_pos this]
        · rw [if_pos trivial]
          refine ⟨⟨k - 1, by omega, fun j hj => ?_⟩, by show k - 1 < k; omega, by simp [S73, magS, natS, eqG_refl]; omega, by simp, by kernel_rfl, Nat.zero_le _⟩
          rcases Nat.lt_or_ge j k with hj2 | hj2
          · have : j = k - 1 := by omega
            subst this
            simp only [Bool.not_eq_false', decide_eq_true_eq] at heq
            omega
          · exact h2 j hj2
      · have hk : k = 0 := by simp at hk; omega
        subst hk
        have : canon x = canon y := by
          apply List.ext_getElem hlen
          intro j hj hj'
          have := h2 j (Nat.zero_le _)
          simpa [hj, hj'] using this
        have : x = y := by rw [← val_canon x, this, val_canon]
        subst this
        simp [resV, cmp3]

def G1 : Nat → Option Ctr := fun f => if f = 55 then some (trimC) else none
theorem G1_ok : ∀ g c, G1 g = some c → CtrOK Tryd.prog g c := by
  intro g c h
  unfold G1 at h
  by_cases hg : g = 55
  · subst hg
    rw [if_pos rfl] at h
    cases h
    exact trim_ok
  rw [if_neg hg] at h
  clear hg
  cases h
def minusC : Ctr := ctr2 true (fun x y => fits x ∧ y ≤ x) (fun x y d => d = x - y) (fun _ _ d => (magS d, []))
def S78 (x y : Nat) (o : List Nat) (c i : Nat) : KV := [(0, magS x), (1, magS y), (5, .osl 0 1 0 o.length), (6, .int .u32 (c : Int)), (13, magS x), (14, .int .i64 ((canon x).length : Int)), (15, .int .i64 (i : Int))]
/-- The groups so far, the borrow, the place. -/
structure I78 (x y : Nat) where
  o : List Nat
  c : Nat
  i : Nat
  len : o.length = i
  le : i ≤ (canon x).length
  dg : dig o
  c1 : c ≤ 1
  eq : val ((canon x).take i) + B ^ i * c = val o + val ((canon y).take i)
theorem canon_len_le {x y : Nat} (h : x ≤ y) : (canon x).length ≤ (canon y).length := by
  rcases Nat.lt_or_ge (canon y).length (canon x).length with h1 | h1
  · have := canon_len_mono h1; omega
  · exact h1
theorem step78 {x y o c i d c' : Nat} {l m : List Nat} (h : val (l.take i) + B ^ i * c = o + val (m.take i)) (he : l.getD i 0 + B * c' = d + m.getD i 0 + c) : val (l.take (i + 1)) + B ^ (i + 1) * c' = o + B ^ i * d + val (m.take (i + 1)) := by
  rw [val_take_succ, val_take_succ, Nat.pow_succ]
  have := congrArg (B ^ i * ·) he
  simp only [Nat.mul_add] at this
  rw [Nat.mul_assoc]
  omega
theorem val_push (l : List Nat) (d : Nat) : val (l ++ [d]) = val l + B ^ l.length * d := by rw [val_append]; simp [val]

theorem minus_ok : CtrOK Tryd.prog 58 minusC := by
  refine fn_ctr2 (fn := Tryd.f58) (c := Tryd.f58.body.getD .skip) rfl rfl rfl fun x y hp O w0 Q hq => ?_
  replace hq := hq _ rfl
  obtain ⟨hx, hyx⟩ := hp
  simp only [fits] at hx hyx
  have hlen := canon_len_le hyx
  refine SafeK.run (k := K58) hmix G1_ok [0, 1, 5, 6, 13, 14, 15] 400 (T := Tree.side ((0 : Int) ≤ (0 : Int) ∧ (0 : Int) ≤ (↑(List.length (canon x)) : Int) ∧ inR IntKind.i64 (↑(List.length (canon x)) : Int) ∧ Int.toNat (↑(List.length (canon x)) : Int) * (4 : Nat) ≤ (140737488355328 : Nat)) (Tree.leaf (Leaf2.loop (Prod.fst (lps K58 (0 : Nat))) (Prod.snd (lps K58 (0 : Nat))) [((0 : Nat), AV.sl (List.length (canon x)) (1 : Nat) (natG IntKind.u32 (canon x))), ((1 : Nat), AV.sl (List.length (canon y)) (1 : Nat) (natG IntKind.u32 (canon y))), ((5 : Nat), AV.osl (0 : Nat) (1 : Nat) (0 : Nat) (0 : Nat)), ((6 : Nat), AV.int IntKind.u32 (0 : Int)), ((13 : Nat), AV.sl (List.length (canon x)) (1 : Nat) (natG IntKind.u32 (canon x))), ((14 : Nat), AV.int IntKind.i64 (↑(List.length (canon x)) : Int)), ((15 : Nat), AV.int IntKind.i64 (0 : Int))] [Blk.arr (0 : Nat) (1 : Nat) (sameG [AV.int IntKind.u32 (0 : Int)])]))) (by kernel_rfl) ?_
  simp only [Tree.holds, Leafs2, inR, lo, hi]
  refine ⟨by omega, fun _ => ?_⟩
  refine SafeK.loop (ι := I78 x y) (fun s => S78 x y s.o s.c s.i) (fun s => [.arr s.o.length 1 (natG .u32 s.o)]) (fun s => (canon x).length - s.i) ⟨[], 0, 0, rfl, Nat.zero_le _, by simp [dig], by omega, by simp [val]⟩ 0 ?_ ?_ (by kernel_rfl)
  · exact ⟨by simp [S78, magS, natS, eqG_refl], by simp [eqG], by kernel_rfl, Nat.zero_le _⟩
  · rintro ⟨o, c, i, ho, hle, hd, hc, he⟩
    subst ho
    have hB : B = 1000000000 := rfl
    refine SafeK.run (k := inside K58 0) hmix G1_ok [0, 1, 5, 6, 13, 14, 15] 400 (T := Tree.ite (decide ((↑(List.length o) : Int) < (↑(List.length (canon x)) : Int))) (Tree.side ((0 : Int) ≤ (↑(List.length o) : Int) ∧ (↑(List.length o) : Int) < (↑(List.length (canon x)) : Int)) (Tree.ite (decide ((↑(List.length o) : Int) < (↑(List.length (canon y)) : Int))) (Tree.side ((0 : Int) ≤ (↑(List.length o) : Int) ∧ (↑(List.length o) : Int) < (↑(List.length (canon y)) : Int)) (Tree.side (inR IntKind.u32 ((↑c : Int) + (↑(List.getD (canon y) (Int.toNat (↑(List.length o) : Int)) (0 : Nat)) : Int))) (Tree.ite (decide ((↑(List.getD (canon x) (Int.toNat (↑(List.length o) : Int)) (0 : Nat)) : Int) < (↑c : Int) + (↑(List.getD (canon y) (Int.toNat (↑(List.length o) : Int)) (0 : Nat)) : Int))) (Tree.side (inR IntKind.u32 ((↑(List.getD (canon x) (Int.toNat (↑(List.length o) : Int)) (0 : Nat)) : Int) + (1000000000 : Int))) (Tree.side (inR IntKind.u32 ((↑(List.getD (canon x) (Int.toNat (↑(List.length o) : Int)) (0 : Nat)) : Int) + (1000000000 : Int) - ((↑c : Int) + (↑(List.getD (canon y) (Int.toNat (↑(List.length o) : Int)) (0 : Nat)) : Int)))) (Tree.side ((0 : Nat) = (0 : Nat) ∧ List.length o ≤ List.length o ∧ (List.length o + (1 : Nat)) * (4 : Nat) ≤ (140737488355328 : Nat)) (Tree.side (inR IntKind.i64 ((↑(List.length o) : Int) + (1 : Int))) (Tree.leaf (Leaf2.back (0 : Nat) [((0 : Nat), AV.sl (List.length (canon x)) (1 : Nat) (natG IntKind.u32 (canon x))), ((1 : Nat), AV.sl (List.length (canon y)) (1 : Nat) (natG IntKind.u32 (canon y))), ((5 : Nat), AV.osl (0 : Nat) (1 : Nat) (0 : Nat) (List.length o + (1 : Nat))), ((6 : Nat), AV.int IntKind.u32 (1 : Int)), ((13 : Nat), AV.sl (List.length (canon x)) (1 : Nat) (natG IntKind.u32 (canon x))), ((14 : Nat), AV.int IntKind.i64 (↑(List.length (canon x)) : Int)), ((15 : Nat), AV.int IntKind.i64 ((↑(List.length o) : Int) + (1 : Int)))] [Blk.arr (List.length o + (1 : Nat)) (1 : Nat) (appG (List.length o) (natG IntKind.u32 o) (viewG (listG (1 : Nat) [AV.int IntKind.u32 ((↑(List.getD (canon x) (Int.toNat (↑(List.length o) : Int)) (0 : Nat)) : Int) + (1000000000 : Int) - ((↑c : Int) + (↑(List.getD (canon y) (Int.toNat (↑(List.length o) : Int)) (0 : Nat)) : Int)))]) (0 : Nat))), Blk.arr (1 : Nat) (1 : Nat) (listG (1 : Nat) [AV.int IntKind.u32 ((↑(List.getD (canon x) (Int.toNat (↑(List.length o) : Int)) (0 : Nat)) : Int) + (1000000000 : Int) - ((↑c : Int) + (↑(List.getD (canon y) (Int.toNat (↑(List.length o) : Int)) (0 : Nat)) : Int)))])])))))) (Tree.side (inR IntKind.u32 ((↑(List.getD (canon x) (Int.toNat (↑(List.length o) : Int)) (0 : Nat)) : Int) - ((↑c : Int) + (↑(List.getD (canon y) (Int.toNat (↑(List.length o) : Int)) (0 : Nat)) : Int)))) (Tree.side ((0 : Nat) = (0 : Nat) ∧ List.length o ≤ List.length o ∧ (List.length o + (1 : Nat)) * (4 : Nat) ≤ (140737488355328 : Nat)) (Tree.side (inR IntKind.i64 ((↑(List.length o) : Int) + (1 : Int))) (Tree.leaf (Leaf2.back (0 : Nat) [((0 : Nat), AV.sl (List.length (canon x)) (1 : Nat) (natG IntKind.u32 (canon x))), ((1 : Nat), AV.sl (List.length (canon y)) (1 : Nat) (natG IntKind.u32 (canon y))), ((5 : Nat), AV.osl (0 : Nat) (1 : Nat) (0 : Nat) (List.length o + (1 : Nat))), ((6 : Nat), AV.int IntKind.u32 (0 : Int)), ((13 : Nat), AV.sl (List.length (canon x)) (1 : Nat) (natG IntKind.u32 (canon x))), ((14 : Nat), AV.int IntKind.i64 (↑(List.length (canon x)) : Int)), ((15 : Nat), AV.int IntKind.i64 ((↑(List.length o) : Int) + (1 : Int)))] [Blk.arr (List.length o + (1 : Nat)) (1 : Nat) (appG (List.length o) (natG IntKind.u32 o) (viewG (listG (1 : Nat) [AV.int IntKind.u32 ((↑(List.getD (canon x) (Int.toNat (↑(List.length o) : Int)) (0 : Nat)) : Int) - ((↑c : Int) + (↑(List.getD (canon y) (Int.toNat (↑(List.length o) : Int)) (0 : Nat)) : Int)))]) (0 : Nat))), Blk.arr (1 : Nat) (1 : Nat) (listG (1 : Nat) [AV.int IntKind.u32 ((↑(List.getD (canon x) (Int.toNat (↑(List.length o) : Int)) (0 : Nat)) : Int) - ((↑c : Int) + (↑(List.getD (canon y) (Int.toNat (↑(List.length o) : Int)) (0 : Nat)) : Int)))])])))))))) (Tree.ite (decide ((↑(List.getD (canon x) (Int.toNat (↑(List.length o) : Int)) (0 : Nat)) : Int) < (↑c : Int))) (Tree.side (inR IntKind.u32 ((↑(List.getD (canon x) (Int.toNat (↑(List.length o) : Int)) (0 : Nat)) : Int) + (1000000000 : Int))) (Tree.side (inR IntKind.u32 ((↑(List.getD (canon x) (Int.toNat (↑(List.length o) : Int)) (0 : Nat)) : Int) + (1000000000 : Int) - (↑c : Int))) (Tree.side ((0 : Nat) = (0 : Nat) ∧ List.length o ≤ List.length o ∧ (List.length o + (1 : Nat)) * (4 : Nat) ≤ (140737488355328 : Nat)) (Tree.side (inR IntKind.i64 ((↑(List.length o) : Int) + (1 : Int))) (Tree.leaf (Leaf2.back (0 : Nat) [((0 : Nat), AV.sl (List.length (canon x)) (1 : Nat) (natG IntKind.u32 (canon x))), ((1 : Nat), AV.sl (List.length (canon y)) (1 : Nat) (natG IntKind.u32 (canon y))), ((5 : Nat), AV.osl (0 : Nat) (1 : Nat) (0 : Nat) (List.length o + (1 : Nat))), ((6 : Nat), AV.int IntKind.u32 (1 : Int)), ((13 : Nat), AV.sl (List.length (canon x)) (1 : Nat) (natG IntKind.u32 (canon x))), ((14 : Nat), AV.int IntKind.i64 (↑(List.length (canon x)) : Int)), ((15 : Nat), AV.int IntKind.i64 ((↑(List.length o) : Int) + (1 : Int)))] [Blk.arr (List.length o + (1 : Nat)) (1 : Nat) (appG (List.length o) (natG IntKind.u32 o) (viewG (listG (1 : Nat) [AV.int IntKind.u32 ((↑(List.getD (canon x) (Int.toNat (↑(List.length o) : Int)) (0 : Nat)) : Int) + (1000000000 : Int) - (↑c : Int))]) (0 : Nat))), Blk.arr (1 : Nat) (1 : Nat) (listG (1 : Nat) [AV.int IntKind.u32 ((↑(List.getD (canon x) (Int.toNat (↑(List.length o) : Int)) (0 : Nat)) : Int) + (1000000000 : Int) - (↑c : Int))])])))))) (Tree.side (inR IntKind.u32 ((↑(List.getD (canon x) (Int.toNat (↑(List.length o) : Int)) (0 : Nat)) : Int) - (↑c : Int))) (Tree.side ((0 : Nat) = (0 : Nat) ∧ List.length o ≤ List.length o ∧ (List.length o + (1 : Nat)) * (4 : Nat) ≤ (140737488355328 : Nat)) (Tree.side (inR IntKind.i64 ((↑(List.length o) : Int) + (1 : Int))) (Tree.leaf (Leaf2.back (0 : Nat) [((0 : Nat), AV.sl (List.length (canon x)) (1 : Nat) (natG IntKind.u32 (canon x))), ((1 : Nat), AV.sl (List.length (canon y)) (1 : Nat) (natG IntKind.u32 (canon y))), ((5 : Nat), AV.osl (0 : Nat) (1 : Nat) (0 : Nat) (List.length o + (1 : Nat))), ((6 : Nat), AV.int IntKind.u32 (0 : Int)), ((13 : Nat), AV.sl (List.length (canon x)) (1 : Nat) (natG IntKind.u32 (canon x))), ((14 : Nat), AV.int IntKind.i64 (↑(List.length (canon x)) : Int)), ((15 : Nat), AV.int IntKind.i64 ((↑(List.length o) : Int) + (1 : Int)))] [Blk.arr (List.length o + (1 : Nat)) (1 : Nat) (appG (List.length o) (natG IntKind.u32 o) (viewG (listG (1 : Nat) [AV.int IntKind.u32 ((↑(List.getD (canon x) (Int.toNat (↑(List.length o) : Int)) (0 : Nat)) : Int) - (↑c : Int))]) (0 : Nat))), Blk.arr (1 : Nat) (1 : Nat) (listG (1 : Nat) [AV.int IntKind.u32 ((↑(List.getD (canon x) (Int.toNat (↑(List.length o) : Int)) (0 : Nat)) : Int) - (↑c : Int))])])))))))) (Tree.ex (fun (u : List Nat) => List.length u = List.length o ∧ (0 : Nat) + List.length o ≤ List.length o ∧ List.length o < (4611686018427387904 : Nat) ∧ eqG (List.length o) (1 : Nat) (natG IntKind.u32 o) (natG IntKind.u32 u) ∧ dig (List.take (List.length o) (List.drop (0 : Nat) u))) fun (n : List Nat) => Tree.all (fun (x : Nat) => x = val (List.take (List.length o) (List.drop (0 : Nat) n))) fun (n : Nat) => Tree.leaf (Leaf2.ret [AV.osl (0 : Nat) (1 : Nat) (0 : Nat) (List.length (canon n))] [Blk.arr (List.length o) (1 : Nat) (natG IntKind.u32 o)]))) (by kernel_rfl) ?_
    simp only [Tree.holds, Leafs2, inR, lo, hi, Int.toNat_natCast, decN_natG]
    have ha := getD_lt (dig_canon x) o.length
    have hb := getD_lt (dig_canon y) o.length
    have hnext : ∀ d c' : Nat, d < B → c' ≤ 1 → o.length < (canon x).length → (canon x).getD o.length 0 + B * c' = d + (canon y).getD o.length 0 + c →
        ∃ s : I78 x y, s.o = o ++ [d] ∧ s.c = c' ∧ s.i = o.length + 1 := fun d c' h1 h2 h3 h4 =>
      ⟨⟨o ++ [d], c', o.length + 1, by simp, h3, dig_append.2 ⟨hd, by simp [dig, h1]⟩, h2, by rw [val_push]; exact step78 (x := x) (y := y) he h4⟩, rfl, rfl, rfl⟩
    refine ⟨fun hlt => ?_, fun hge => ?_⟩
    · have hlt : o.length < (canon x).length := by simp at hlt; omega
      refine ⟨by omega, fun _ => ⟨fun hb2 => ⟨by simp at hb2; omega, fun _ => ⟨by omega, fun _ => ⟨fun hlt2 => ?_, fun hge2 => ?_⟩⟩⟩, fun hb2 => ⟨fun hlt2 => ?_, fun hge2 => ?_⟩⟩⟩
      · simp only [decide_eq_true_eq] at hlt2
        refine ⟨by omega, fun _ => ⟨by omega, fun _ => ⟨⟨trivial, by omega, by omega⟩, fun _ => ⟨by omega, fun _ => ?_⟩⟩⟩⟩
        obtain ⟨s, h1, h2, h3⟩ := hnext ((canon x).getD o.length 0 + B - (c + (canon y).getD o.length 0)) 1 (by omega) (by omega) hlt (by omega)
        rw [if_pos trivial]
        refine ⟨s, by show _ - s.i < _; omega, by simp [S78, h1, h2, h3, magS, natS, eqG_refl], by rw [h1]; exact heap_push (by omega), by kernel_rfl, Nat.zero_le _⟩
      · simp only [decide_eq_false_iff_not] at hge2
        refine ⟨by omega, fun _ => ⟨⟨trivial, by omega, by omega⟩, fun _ => ⟨by omega, fun _ => ?_⟩⟩⟩
        obtain ⟨s, h1, h2, h3⟩ := hnext ((canon x).getD o.length 0 - (c + (canon y).getD o.length 0)) 0 (by omega) (by omega) hlt (by omega)
        rw [if_pos trivial]
        refine ⟨s, by show _ - s.i < _; omega, by simp [S78, h1, h2, h3, magS, natS, eqG_refl], by rw [h1]; exact heap_push (by omega), by kernel_rfl, Nat.zero_le _⟩
      · simp only [decide_eq_true_eq, decide_eq_false_iff_not] at hlt2 hb2
        have hb0 : (canon y).getD o.length 0 = 0 := by simp [List.getD, List.getElem?_eq_none (show (canon y).length ≤ o.length by omega)]
        refine ⟨by omega, fun _ => ⟨by omega, fun _ => ⟨⟨trivial, by omega, by omega⟩, fun _ => ⟨by omega, fun _ => ?_⟩⟩⟩⟩
        obtain ⟨s, h1, h2, h3⟩ := hnext ((canon x).getD o.length 0 + B - c) 1 (by omega) (by omega) hlt (by omega)
        rw [if_pos trivial]
        refine ⟨s, by show _ - s.i < _; omega, by simp [S78, h1, h2, h3, magS, natS, eqG_refl], by rw [h1]; exact heap_push (by omega), by kernel_rfl, Nat.zero_le _⟩
      · simp only [decide_eq_false_iff_not] at hge2 hb2
        have hb0 : (canon y).getD o.length 0 = 0 := by simp [List.getD, List.getElem?_eq_none (show (canon y).length ≤ o.length by omega)]
        refine ⟨by omega, fun _ => ⟨⟨trivial, by omega, by omega⟩, fun _ => ⟨by omega, fun _ => ?_⟩⟩⟩
        obtain ⟨s, h1, h2, h3⟩ := hnext ((canon x).getD o.length 0 - c) 0 (by omega) (by omega) hlt (by omega)
        rw [if_pos trivial]
        refine ⟨s, by show _ - s.i < _; omega, by simp [S78, h1, h2, h3, magS, natS, eqG_refl], by rw [h1]; exact heap_push (by omega), by kernel_rfl, Nat.zero_le _⟩
    · have hge : o.length = (canon x).length := by simp at hge; omega
      have hv : val o = x - y := by
        have h1 := val_lt hd
        rw [hge, List.take_length, List.take_of_length_le hlen, val_canon, val_canon] at he
        have : c = 0 := by
          rcases Nat.lt_or_ge c 1 with h | h
          · omega
          · have : c = 1 := by omega
            subst this
            rw [hge] at h1
            omega
        subst this
        omega
      refine ⟨o, ⟨rfl, by omega, by omega, eqG_refl _ _ _, by simpa using hd⟩, ⟨_, rfl⟩, ?_⟩
      intro X hX
      have hX : X = x - y := by simpa [hv] using hX
      subst hX
      have htr : trimL o = canon (x - y) := by rw [trim_canon hd, hv]
      have htl : (canon (x - y)).length = tlen o := by rw [← htr, trimL, List.length_take]; have := tlen_le o; omega
      rw [htl]
      refine ⟨[], rfl, by simp, by simp, fun _ => ⟨new0_arr, by simp⟩, magS (x - y), [], ?_, by simp [expH], rfl, hq⟩
      simp only [resV, exp2, exp1, exp0_arr]
      exact eqA0_trim htr
end Go.Proofs.Tryd
end

/- The integers' magnitudes: short division, the guess of a digit, products. -/
section
set_option linter.unusedVariables false
set_option linter.unusedSimpArgs false
set_option maxRecDepth 100000
open Go Go.Sx Go.Proofs Go.Nov
namespace Go.Proofs.Tryd
attribute [local simp] eqKV eqA eqA0 eqH eqB eqL eqL0
noncomputable def K54 : List Go.Sx.Item := [.code (Tryd.f54.body.getD .skip)]
noncomputable def K57 : List Go.Sx.Item := [.code (Tryd.f57.body.getD .skip)]

theorem tdivN (m n : Nat) : Int.tdiv (m : Int) (n : Int) = ((m / n : Nat) : Int) := rfl
theorem tmodN (m n : Nat) : Int.tmod (m : Int) (n : Int) = ((m % n : Nat) : Int) := rfl
theorem natS_zero (k : IntKind) (n : Nat) : eqG n 1 (sameG [.int k 0]) (natG k (List.replicate n 0)) := by
  intro j o hj ho
  have : o = 0 := by omega
  subst this
  simp [sameG, natG, hj]
theorem dec_drop {l : List Nat} {k : Nat} (hk : k < l.length) : l.drop k = l.getD k 0 :: l.drop (k + 1) := by
  rw [List.drop_eq_getElem_cons hk]
  simp [List.getD, hk]

def shortC : Ctr := ctrP true (fun p : Nat × Nat => [magS p.1, .int .u32 (p.2 : Int)]) (fun p => fits p.1 ∧ 0 < p.2 ∧ p.2 < B) (fun p (r : Nat × Nat) => r = (p.1 / p.2, p.1 % p.2)) (fun _ r => (.tup [magS r.1, .int .u32 (r.2 : Int)], []))
def S74 (x d : Nat) (o : List Nat) (r k : Nat) : KV := [(0, magS x), (1, .int .u32 (d : Int)), (4, .osl 0 1 0 o.length), (6, .int .u64 (r : Int)), (7, .int .i64 ((k : Int) - 1))]
/-- The quotient's groups, the rest, how many groups are left. -/
structure I74 (x d : Nat) where
  o : List Nat
  r : Nat
  k : Nat
  len : o.length = (canon x).length
  le : k ≤ (canon x).length
  rd : r < d
  dg : dig (o.drop k)
  eq : val ((canon x).drop k) = d * val (o.drop k) + r

theorem short_ok : CtrOK Tryd.prog 54 shortC := by
  refine fn_ctrP (fn := Tryd.f54) (c := Tryd.f54.body.getD .skip) rfl rfl rfl fun p hp O w0 Q hq => ?_
  replace hq := hq _ rfl
  obtain ⟨x, d⟩ := p
  obtain ⟨hx, hd0, hdB⟩ := hp
  simp only [fits] at hx hd0 hdB hq
  have hB : B = 1000000000 := rfl
  refine SafeK.run (k := K54) hmix G1_ok [0, 1, 4, 6, 7] 400 (T := Tree.side ((0 : Int) ≤ (↑(List.length (canon x)) : Int) ∧ (↑(List.length (canon x)) : Int) ≤ (↑(List.length (canon x)) : Int) ∧ inR IntKind.i64 (↑(List.length (canon x)) : Int) ∧ Int.toNat (↑(List.length (canon x)) : Int) * (4 : Nat) ≤ (140737488355328 : Nat)) (Tree.side (inR IntKind.i64 ((↑(List.length (canon x)) : Int) - (1 : Int))) (Tree.leaf (Leaf2.loop (Prod.fst (lps K54 (0 : Nat))) (Prod.snd (lps K54 (0 : Nat))) [((0 : Nat), AV.sl (List.length (canon x)) (1 : Nat) (natG IntKind.u32 (canon x))), ((1 : Nat), AV.int IntKind.u32 (↑d : Int)), ((4 : Nat), AV.osl (0 : Nat) (1 : Nat) (0 : Nat) (Int.toNat (↑(List.length (canon x)) : Int))), ((6 : Nat), AV.int IntKind.u64 (0 : Int)), ((7 : Nat), AV.int IntKind.i64 ((↑(List.length (canon x)) : Int) - (1 : Int)))] [Blk.arr (Int.toNat (↑(List.length (canon x)) : Int)) (1 : Nat) (sameG [AV.int IntKind.u32 (0 : Int)])])))) (by kernel_rfl) ?_
  simp only [Tree.holds, Leafs2, inR, lo, hi]
  refine ⟨by omega, fun _ => ⟨by omega, fun _ => ?_⟩⟩
  refine SafeK.loop (ι := I74 x d) (fun s => S74 x d s.o s.r s.k) (fun s => [.arr s.o.length 1 (natG .u32 s.o)]) (fun s => s.k) ⟨List.replicate (canon x).length 0, 0, (canon x).length, by simp, Nat.le_refl _, hd0, by simp [dig], by simp [val]⟩ 0 ?_ ?_ (by kernel_rfl)
  · exact ⟨by simp [S74, magS, natS, eqG_refl], by simp [natS_zero], by kernel_rfl, Nat.zero_le _⟩
  · rintro ⟨o, r, k, hlen, hle, hr, hdg, he⟩
    refine SafeK.run (k := inside K54 0) hmix G1_ok [0, 1, 4, 6, 7] 400 (T := Tree.ite (decide ((0 : Int) ≤ (↑k : Int) - (1 : Int))) (Tree.side (inR IntKind.u64 ((↑r : Int) * (1000000000 : Int))) (Tree.side ((0 : Int) ≤ (↑k : Int) - (1 : Int) ∧ (↑k : Int) - (1 : Int) < (↑(List.length (canon x)) : Int)) (Tree.side (inR IntKind.u64 (↑(List.getD (canon x) (Int.toNat ((↑k : Int) - (1 : Int))) (0 : Nat)) : Int)) (Tree.side (inR IntKind.u64 ((↑r : Int) * (1000000000 : Int) + (↑(List.getD (canon x) (Int.toNat ((↑k : Int) - (1 : Int))) (0 : Nat)) : Int))) (Tree.side (inR IntKind.u64 (↑d : Int)) (Tree.side ((↑d : Int) ≠ (0 : Int) ∧ inR IntKind.u64 (Int.tdiv ((↑r : Int) * (1000000000 : Int) + (↑(List.getD (canon x) (Int.toNat ((↑k : Int) - (1 : Int))) (0 : Nat)) : Int)) (↑d : Int))) (Tree.side (inR IntKind.u32 (Int.tdiv ((↑r : Int) * (1000000000 : Int) + (↑(List.getD (canon x) (Int.toNat ((↑k : Int) - (1 : Int))) (0 : Nat)) : Int)) (↑d : Int))) (Tree.side (inR IntKind.u64 (↑d : Int)) (Tree.side ((↑d : Int) ≠ (0 : Int)) (Tree.side ((0 : Int) ≤ (↑k : Int) - (1 : Int) ∧ (↑k : Int) - (1 : Int) < (↑(List.length o) : Int)) (Tree.side (inR IntKind.i64 ((↑k : Int) - (1 : Int) - (1 : Int))) (Tree.leaf (Leaf2.back (0 : Nat) [((0 : Nat), AV.sl (List.length (canon x)) (1 : Nat) (natG IntKind.u32 (canon x))), ((1 : Nat), AV.int IntKind.u32 (↑d : Int)), ((4 : Nat), AV.osl (0 : Nat) (1 : Nat) (0 : Nat) (List.length o)), ((6 : Nat), AV.int IntKind.u64 (Int.tmod ((↑r : Int) * (1000000000 : Int) + (↑(List.getD (canon x) (Int.toNat ((↑k : Int) - (1 : Int))) (0 : Nat)) : Int)) (↑d : Int))), ((7 : Nat), AV.int IntKind.i64 ((↑k : Int) - (1 : Int) - (1 : Int)))] [Blk.arr (List.length o) (1 : Nat) (updG (natG IntKind.u32 o) ((0 : Nat) + Int.toNat ((↑k : Int) - (1 : Int))) (0 : Nat) [AV.int IntKind.u32 (Int.tdiv ((↑r : Int) * (1000000000 : Int) + (↑(List.getD (canon x) (Int.toNat ((↑k : Int) - (1 : Int))) (0 : Nat)) : Int)) (↑d : Int))])]))))))))))))) (Tree.ex (fun (u : List Nat) => List.length u = List.length o ∧ (0 : Nat) + List.length o ≤ List.length o ∧ List.length o < (4611686018427387904 : Nat) ∧ eqG (List.length o) (1 : Nat) (natG IntKind.u32 o) (natG IntKind.u32 u) ∧ dig (List.take (List.length o) (List.drop (0 : Nat) u))) fun (n : List Nat) => Tree.all (fun (x : Nat) => x = val (List.take (List.length o) (List.drop (0 : Nat) n))) fun (n : Nat) => Tree.side (inR IntKind.u32 (↑r : Int)) (Tree.leaf (Leaf2.ret [AV.osl (0 : Nat) (1 : Nat) (0 : Nat) (List.length (canon n)), AV.int IntKind.u32 (↑r : Int)] [Blk.arr (List.length o) (1 : Nat) (natG IntKind.u32 o)])))) (by kernel_rfl) ?_
    have e : ((k : Int) - 1).toNat = k - 1 := by omega
    have ha := getD_lt (dig_canon x) (k - 1)
    have ev : ((r : Int) * 1000000000 + ((canon x).getD (k - 1) 0 : Nat)) = ((r * B + (canon x).getD (k - 1) 0 : Nat) : Int) := by simp
    simp only [Tree.holds, Leafs2, inR, lo, hi, e, ev, tdivN, tmodN, decN_natG]
    generalize hv : r * B + (canon x).getD (k - 1) 0 = v
    have hvd : v < d * B := by
      have : (r + 1) * B ≤ d * B := Nat.mul_le_mul_right _ hr
      rw [Nat.add_mul] at this
      omega
    have hq1 : v / d < B := Nat.div_lt_of_lt_mul hvd
    have hr1 : v % d < d := Nat.mod_lt _ hd0
    have hdm := Nat.div_add_mod v d
    generalize v / d = q at hq1 hdm ⊢
    generalize v % d = rr at hr1 hdm ⊢
    have hdB2 : d * B < B * B := Nat.mul_lt_mul_of_pos_right hdB (by decide)
    rw [hB] at hdB2
    refine ⟨fun hk => ?_, fun hk => ?_⟩
    · have hk : 0 < k := by simp at hk; omega
      refine ⟨by omega, fun _ => ⟨by omega, fun _ => ⟨by omega, fun _ => ⟨by omega, fun _ => ⟨by omega, fun _ => ⟨⟨by omega, by omega, by omega⟩, fun _ => ⟨by omega, fun _ => ⟨by omega, fun _ => ⟨by omega, fun _ => ⟨by omega, fun _ => ⟨by omega, fun _ => ?_⟩⟩⟩⟩⟩⟩⟩⟩⟩⟩⟩
      rw [if_pos trivial]
      have hkl : k - 1 < o.length := by omega
      have hdr : (o.set (k - 1) (q)).drop (k - 1) = (q) :: o.drop k := by
        rw [dec_drop (by simpa using hkl)]
        rw [show k - 1 + 1 = k by omega, List.drop_set_of_lt (by omega)]
        simp [hkl]
      refine ⟨⟨o.set (k - 1) (q), rr, k - 1, by simpa using hlen, by omega, hr1, by rw [hdr]; exact dig_cons.2 ⟨hq1, hdg⟩, ?_⟩, by show k - 1 < k; omega, by simp [S74, magS, natS, eqG_refl]; omega, ?_, by kernel_rfl, Nat.zero_le _⟩
      · rw [hdr, dec_drop (by omega), show k - 1 + 1 = k by omega]
        simp only [val, he]
        rw [Nat.mul_add, Nat.mul_add, ← Nat.mul_assoc, ← Nat.mul_assoc, Nat.mul_comm d B]
        have h5 : B * r = r * B := Nat.mul_comm _ _
        omega
      · refine ⟨⟨by simp, rfl, ?_⟩, trivial⟩
        have := eqG_set (k := .u32) (l := o) (v := ((q : Nat) : Int)) (i := k - 1) (by omega) hkl
        simpa using this
    · have hk : k = 0 := by simp at hk; omega
      subst hk
      simp only [List.drop_zero] at he hdg
      rw [val_canon] at he
      have hqv : val o = x / d := by
        rw [he, Nat.mul_add_div hd0, Nat.div_eq_of_lt hr, Nat.add_zero]
      have hrv : r = x % d := by rw [he, Nat.mul_add_mod, Nat.mod_eq_of_lt hr]
      have htr : trimL o = canon (x / d) := by rw [trim_canon hdg, hqv]
      refine ⟨o, ⟨rfl, by omega, by omega, eqG_refl _ _ _, by simpa using hdg⟩, ⟨_, rfl⟩, ?_⟩
      intro X hX
      have hX : X = x / d := by simpa [hqv] using hX
      subst hX
      have htl : (canon (x / d)).length = tlen o := by rw [← htr, trimL, List.length_take]; have := tlen_le o; omega
      rw [htl]
      refine ⟨by omega, fun _ => ?_⟩
      refine ⟨[], rfl, by simp, by simp, fun _ => ⟨?_, by simp⟩, _, [], ?_, by simp [expH], rfl, hq⟩
      · simp only [resV, new2]
        intro a ha
        rcases List.mem_cons.1 ha with rfl | ha
        · exact new0_arr
        · simp only [List.mem_singleton] at ha; subst ha; rfl
      · simp only [resV, exp2, List.map_cons, List.map_nil, exp1, exp0_arr, eqA2, eqL1]
        exact ⟨eqA0_trim htr, by simp [eqA, exp0, ren0, hrv], trivial⟩

structure D5 where
  t : Nat
  u : Nat
  v : Nat
  y : Nat
  z : Nat
def guessC : Ctr := ctrP true (fun p : D5 => [.int .u64 (p.t : Int), .int .u64 (p.u : Int), .int .u64 (p.v : Int), .int .u64 (p.y : Int), .int .u64 (p.z : Int)])
  (fun p => p.t ≤ p.y ∧ p.u < B ∧ p.v < B ∧ p.y < B ∧ p.z < B ∧ B ≤ 2 * p.y) (fun p n => n = guessF p.v p.y p.z 2 ((p.t * B + p.u) / p.y) ((p.t * B + p.u) % p.y)) (fun _ n => (.int .u64 (n : Int), []))
def S77 (v y z q r : Nat) : KV := [(2, .int .u64 (v : Int)), (3, .int .u64 (y : Int)), (4, .int .u64 (z : Int)), (12, .int .u64 (q : Int)), (13, .int .u64 (r : Int))]
structure I77 (v y z R : Nat) where
  q : Nat
  r : Nat
  n : Nat
  rB : r < B
  qB : q ≤ B + 1
  nB : B ≤ r + n * y
  eq : guessF v y z n q r = R

theorem guess_ok : CtrOK Tryd.prog 57 guessC := by
  refine fn_ctrP (fn := Tryd.f57) (c := Tryd.f57.body.getD .skip) rfl rfl rfl fun p hp O w0 Q hq => ?_
  replace hq := hq _ rfl
  obtain ⟨t, u, v, y, z⟩ := p
  simp only at hq
  obtain ⟨h1, h2, h3, h4, h5, h6⟩ := hp
  simp only at h1 h2 h3 h4 h5 h6
  have hB : B = 1000000000 := rfl
  refine SafeK.run (k := K57) hmix noG_ok [2, 3, 4, 12, 13] 400 (T := Tree.side (inR IntKind.u64 ((↑t : Int) * (1000000000 : Int))) (Tree.side (inR IntKind.u64 ((↑t : Int) * (1000000000 : Int) + (↑u : Int))) (Tree.side ((↑y : Int) ≠ (0 : Int) ∧ inR IntKind.u64 (Int.tdiv ((↑t : Int) * (1000000000 : Int) + (↑u : Int)) (↑y : Int))) (Tree.side ((↑y : Int) ≠ (0 : Int)) (Tree.leaf (Leaf2.loop (Prod.fst (lps K57 (0 : Nat))) (Prod.snd (lps K57 (0 : Nat))) [((2 : Nat), AV.int IntKind.u64 (↑v : Int)), ((3 : Nat), AV.int IntKind.u64 (↑y : Int)), ((4 : Nat), AV.int IntKind.u64 (↑z : Int)), ((12 : Nat), AV.int IntKind.u64 (Int.tdiv ((↑t : Int) * (1000000000 : Int) + (↑u : Int)) (↑y : Int))), ((13 : Nat), AV.int IntKind.u64 (Int.tmod ((↑t : Int) * (1000000000 : Int) + (↑u : Int)) (↑y : Int)))] [])))))) (by kernel_rfl) ?_
  have ev : ((t : Int) * 1000000000 + (u : Int)) = ((t * B + u : Nat) : Int) := by simp
  simp only [Tree.holds, Leafs2, inR, lo, hi, ev, tdivN, tmodN]
  have hy : 0 < y := by omega
  have hr : (t * B + u) % y < y := Nat.mod_lt _ hy
  have hq1 : (t * B + u) / y ≤ B + 1 := by
    have h7 : t * B ≤ y * B := Nat.mul_le_mul_right _ h1
    have : (t * B + u) / y < B + 2 := by
      apply Nat.div_lt_of_lt_mul
      rw [Nat.mul_add]
      omega
    omega
  have hst : t * 1000000000 ≤ 1000000000 * 1000000000 := Nat.mul_le_mul_right _ (by omega)
  generalize hR : guessF v y z 2 ((t * B + u) / y) ((t * B + u) % y) = R at hq
  generalize hqq : (t * B + u) / y = q at hq1 hR ⊢
  generalize hrr : (t * B + u) % y = r at hr hR ⊢
  refine ⟨by omega, fun _ => ⟨by omega, fun _ => ⟨⟨by omega, by omega, by omega⟩, fun _ => ⟨by omega, fun _ => ?_⟩⟩⟩⟩
  refine SafeK.loop (ι := I77 v y z R) (fun s => S77 v y z s.q s.r) (fun _ => []) (fun s => s.n) ⟨q, r, 2, by omega, hq1, by omega, hR⟩ 0 ?_ ?_ (by kernel_rfl)
  · exact ⟨by simp [S77], by simp, by kernel_rfl, Nat.zero_le _⟩
  · rintro ⟨q, r, n, hrB, hqB, hnB, hR⟩
    refine SafeK.run (k := inside K57 0) hmix noG_ok [2, 3, 4, 12, 13] 400 (T := Tree.side (decide ((1000000000 : Int) ≤ (↑q : Int)) = false → inR IntKind.u64 ((↑q : Int) * (↑z : Int))) (Tree.side (decide ((1000000000 : Int) ≤ (↑q : Int)) = false → inR IntKind.u64 ((↑r : Int) * (1000000000 : Int))) (Tree.side (decide ((1000000000 : Int) ≤ (↑q : Int)) = false → inR IntKind.u64 ((↑r : Int) * (1000000000 : Int) + (↑v : Int))) (Tree.ite (bif decide ((1000000000 : Int) ≤ (↑q : Int)) then true else decide ((↑r : Int) * (1000000000 : Int) + (↑v : Int) < (↑q : Int) * (↑z : Int))) (Tree.side (inR IntKind.u64 ((↑q : Int) - (1 : Int))) (Tree.side (inR IntKind.u64 ((↑r : Int) + (↑y : Int))) (Tree.ite (decide ((1000000000 : Int) ≤ (↑r : Int) + (↑y : Int))) (Tree.leaf (Leaf2.ret [AV.int IntKind.u64 ((↑q : Int) - (1 : Int))] [])) (Tree.leaf (Leaf2.back (0 : Nat) [((2 : Nat), AV.int IntKind.u64 (↑v : Int)), ((3 : Nat), AV.int IntKind.u64 (↑y : Int)), ((4 : Nat), AV.int IntKind.u64 (↑z : Int)), ((12 : Nat), AV.int IntKind.u64 ((↑q : Int) - (1 : Int))), ((13 : Nat), AV.int IntKind.u64 ((↑r : Int) + (↑y : Int)))] []))))) (Tree.leaf (Leaf2.ret [AV.int IntKind.u64 (↑q : Int)] [])))))) (by kernel_rfl) ?_
    simp only [Tree.holds, Leafs2, inR, lo, hi, Bool.cond_eq_ite]
    have hqz : q * z ≤ 1000000001 * 1000000000 := Nat.mul_le_mul (by omega) (by omega)
    have eqz : ((q : Int) * (z : Int)) = ((q * z : Nat) : Int) := by simp
    rw [eqz]
    have hrb : r * B = 1000000000 * r := Nat.mul_comm _ _
    generalize hp : q * z = p at hqz ⊢
    refine ⟨fun _ => by omega, fun _ => ⟨fun _ => by omega, fun _ => ⟨fun _ => by omega, fun _ => ⟨fun hc => ?_, fun hc => ?_⟩⟩⟩⟩
    · have hcond : B ≤ q ∨ r * B + v < q * z := by
        rw [hp]
        split at hc
        · rename_i h; simp only [decide_eq_true_eq] at h; left; omega
        · simp only [decide_eq_true_eq] at hc; right; omega
      have hq0 : 0 < q := by
        rcases Nat.eq_zero_or_pos q with rfl | h
        · simp at hcond
        · exact h
      cases n with
      | zero => omega
      | succ n =>
        simp only [guessF, if_pos hcond] at hR
        refine ⟨by omega, fun _ => ⟨by omega, fun _ => ⟨fun hb => ?_, fun hb => ?_⟩⟩⟩
        · rw [if_pos (by simp at hb; omega)] at hR
          refine RetR.scal hq rfl ?_
          simp only [resV]; congr 1; omega
        · rw [if_neg (by simp at hb; omega)] at hR
          rw [if_pos trivial]
          refine ⟨⟨q - 1, r + y, n, by simp at hb; omega, by omega, by rw [Nat.add_mul] at hnB; omega, hR⟩, by show n < n + 1; omega, by simp [S77]; omega, by simp, by kernel_rfl, Nat.zero_le _⟩
    · have hcond : ¬ (B ≤ q ∨ r * B + v < q * z) := by
        rw [hp]
        split at hc
        · cases hc
        · rename_i h; simp only [decide_eq_true_eq, decide_eq_false_iff_not] at h hc; omega
      refine RetR.scal hq rfl ?_
      have : guessF v y z n q r = q := by
        cases n with
        | zero => rfl
        | succ n => simp only [guessF, if_neg hcond]
      simp only [resV]; congr 1; omega
end Go.Proofs.Tryd
end

/- The integers' magnitudes: products. -/
section
set_option linter.unusedVariables false
set_option linter.unusedSimpArgs false
set_option maxRecDepth 100000
open Go Go.Sx Go.Proofs Go.Nov
namespace Go.Proofs.Tryd
attribute [local simp] eqKV eqA eqA0 eqH eqB eqL eqL0
noncomputable def K56 : List Go.Sx.Item := [.code (Tryd.f56.body.getD .skip)]

theorem heap_set {k : IntKind} {o : List Nat} {v : Int} {i d i' : Nat} (hv : v = d) (hi : i < o.length) (hi' : i' = i) : eqH [.arr o.length 1 (updG (natG k o) i' 0 [.int k v])] [.arr (o.set i d).length 1 (natG k (o.set i d))] := by
  subst hv
  subst hi'
  refine ⟨⟨by simp, rfl, ?_⟩, by simp [eqH]⟩
  have := eqG_set (k := k) (l := o) (v := (d : Int)) (by omega) hi
  simpa using this

def timesC : Ctr := ctr2 true (fun x y => fits x ∧ fits y)
  (fun x y p => p = x * y) (fun x y p => (.osl 0 1 0 (canon p).length, [.arr ((canon x).length + (canon y).length) 1 (natG .u32 (padN ((canon x).length + (canon y).length) p))]))
def S76 (x y i : Nat) (o : List Nat) : KV := [(0, magS x), (1, magS y), (5, .osl 0 1 0 o.length), (6, .undef), (7, .undef), (8, .undef), (18, magS x), (19, .int .i64 ((canon x).length : Nat)), (20, .int .i64 (i : Int)), (25, .undef), (26, .undef), (27, .undef)]
def S76b (x y i j c : Nat) (o : List Nat) : KV := [(0, magS x), (1, magS y), (5, .osl 0 1 0 o.length), (6, .int .i64 (i : Int)), (7, .int .u32 ((canon x).getD i 0 : Nat)), (8, .int .u64 (c : Int)), (18, magS x), (19, .int .i64 ((canon x).length : Nat)), (20, .int .i64 (i : Int)), (25, magS y), (26, .int .i64 ((canon y).length : Nat)), (27, .int .i64 (j : Int))]
structure I76 (x y : Nat) where
  o : List Nat
  i : Nat
  len : o.length = (canon x).length + (canon y).length
  le : i ≤ (canon x).length
  dg : dig o
  eq : val o = val ((canon x).take i) * y
structure I76b (x y i V : Nat) where
  o : List Nat
  c : Nat
  j : Nat
  len : o.length = (canon x).length + (canon y).length
  le : j ≤ (canon y).length
  dg : dig o
  cB : c < B
  z : ∀ p, i + (canon y).length ≤ p → o.getD p 0 = 0
  eq : val o + B ^ i * B ^ j * c = V + B ^ i * (canon x).getD i 0 * val ((canon y).take j)
theorem times_step {o' Pi Pj op d v a b' c c' V vt vo : Nat} (h1 : o' + Pi*Pj * op = vo + Pi*Pj * d) (h2 : vo + Pi*Pj * c = V + Pi * a * vt) (h3 : B * c' + d = v) (h4 : v = a * b' + op + c) : o' + Pi*(Pj*B) * c' = V + Pi * a * (vt + Pj * b') := by grind

theorem times_ok : CtrOK Tryd.prog 56 timesC := by
  refine fn_ctr2 (fn := Tryd.f56) (c := Tryd.f56.body.getD .skip) rfl rfl rfl fun x y hp O w0 Q hq => ?_
  replace hq := hq _ rfl
  obtain ⟨hx, hy⟩ := hp
  simp only [fits] at hx hy hq
  have hB : B = 1000000000 := rfl
  refine SafeK.run (k := K56) hmix G1_ok [0, 1, 5, 6, 7, 8, 18, 19, 20, 25, 26, 27] 400 (T := Tree.side (inR IntKind.i64 ((↑(List.length (canon x)) : Int) + (↑(List.length (canon y)) : Int))) (Tree.side ((0 : Int) ≤ (↑(List.length (canon x)) : Int) + (↑(List.length (canon y)) : Int) ∧ (↑(List.length (canon x)) : Int) + (↑(List.length (canon y)) : Int) ≤ (↑(List.length (canon x)) : Int) + (↑(List.length (canon y)) : Int) ∧ inR IntKind.i64 ((↑(List.length (canon x)) : Int) + (↑(List.length (canon y)) : Int)) ∧ Int.toNat ((↑(List.length (canon x)) : Int) + (↑(List.length (canon y)) : Int)) * (4 : Nat) ≤ (140737488355328 : Nat)) (Tree.leaf (Leaf2.loop (Prod.fst (lps K56 (0 : Nat))) (Prod.snd (lps K56 (0 : Nat))) [((0 : Nat), AV.sl (List.length (canon x)) (1 : Nat) (natG IntKind.u32 (canon x))), ((1 : Nat), AV.sl (List.length (canon y)) (1 : Nat) (natG IntKind.u32 (canon y))), ((5 : Nat), AV.osl (0 : Nat) (1 : Nat) (0 : Nat) (Int.toNat ((↑(List.length (canon x)) : Int) + (↑(List.length (canon y)) : Int)))), ((6 : Nat), AV.undef), ((7 : Nat), AV.undef), ((8 : Nat), AV.undef), ((18 : Nat), AV.sl (List.length (canon x)) (1 : Nat) (natG IntKind.u32 (canon x))), ((19 : Nat), AV.int IntKind.i64 (↑(List.length (canon x)) : Int)), ((20 : Nat), AV.int IntKind.i64 (0 : Int)), ((25 : Nat), AV.undef), ((26 : Nat), AV.undef), ((27 : Nat), AV.undef)] [Blk.arr (Int.toNat ((↑(List.length (canon x)) : Int) + (↑(List.length (canon y)) : Int))) (1 : Nat) (sameG [AV.int IntKind.u32 (0 : Int)])])))) (by kernel_rfl) ?_
  simp only [Tree.holds, Leafs2, inR, lo, hi]
  have esum : ((canon x).length : Int) + ((canon y).length : Int) = (((canon x).length + (canon y).length : Nat) : Int) := by omega
  simp only [esum, Int.toNat_natCast]
  refine ⟨by omega, fun _ => ⟨by omega, fun _ => ?_⟩⟩
  refine SafeK.loop (ι := I76 x y) (fun s => S76 x y s.i s.o) (fun s => [.arr s.o.length 1 (natG .u32 s.o)]) (fun s => (canon x).length - s.i) ⟨List.replicate ((canon x).length + (canon y).length) 0, 0, by simp, Nat.zero_le _, dig_replicate _, by simp [val_replicate, val]⟩ 0 ?_ ?_ (by kernel_rfl)
  · exact ⟨by simp [S76, magS, natS, eqG_refl], by simp [natS_zero], by kernel_rfl, Nat.zero_le _⟩
  · rintro ⟨o, i, hlen, hle, hd, he⟩
    refine SafeK.run (k := inside K56 0) hmix G1_ok [0, 1, 5, 6, 7, 8, 18, 19, 20, 25, 26, 27] 400 (T := Tree.ite (decide ((↑i : Int) < (↑(List.length (canon x)) : Int))) (Tree.side ((0 : Int) ≤ (↑i : Int) ∧ (↑i : Int) < (↑(List.length (canon x)) : Int)) (Tree.leaf (Leaf2.loop (Prod.fst (lps (inside K56 (0 : Nat)) (0 : Nat))) (Prod.snd (lps (inside K56 (0 : Nat)) (0 : Nat))) [((0 : Nat), AV.sl (List.length (canon x)) (1 : Nat) (natG IntKind.u32 (canon x))), ((1 : Nat), AV.sl (List.length (canon y)) (1 : Nat) (natG IntKind.u32 (canon y))), ((5 : Nat), AV.osl (0 : Nat) (1 : Nat) (0 : Nat) (List.length o)), ((6 : Nat), AV.int IntKind.i64 (↑i : Int)), ((7 : Nat), AV.int IntKind.u32 (↑(List.getD (canon x) (Int.toNat (↑i : Int)) (0 : Nat)) : Int)), ((8 : Nat), AV.int IntKind.u64 (0 : Int)), ((18 : Nat), AV.sl (List.length (canon x)) (1 : Nat) (natG IntKind.u32 (canon x))), ((19 : Nat), AV.int IntKind.i64 (↑(List.length (canon x)) : Int)), ((20 : Nat), AV.int IntKind.i64 (↑i : Int)), ((25 : Nat), AV.sl (List.length (canon y)) (1 : Nat) (natG IntKind.u32 (canon y))), ((26 : Nat), AV.int IntKind.i64 (↑(List.length (canon y)) : Int)), ((27 : Nat), AV.int IntKind.i64 (0 : Int))] [Blk.arr (List.length o) (1 : Nat) (natG IntKind.u32 o)]))) (Tree.ex (fun (u : List Nat) => List.length u = List.length o ∧ (0 : Nat) + List.length o ≤ List.length o ∧ List.length o < (4611686018427387904 : Nat) ∧ eqG (List.length o) (1 : Nat) (natG IntKind.u32 o) (natG IntKind.u32 u) ∧ dig (List.take (List.length o) (List.drop (0 : Nat) u))) fun (n : List Nat) => Tree.all (fun (x : Nat) => x = val (List.take (List.length o) (List.drop (0 : Nat) n))) fun (n : Nat) => Tree.leaf (Leaf2.ret [AV.osl (0 : Nat) (1 : Nat) (0 : Nat) (List.length (canon n))] [Blk.arr (List.length o) (1 : Nat) (natG IntKind.u32 o)]))) (by kernel_rfl) ?_
    simp only [Tree.holds, Leafs2, inR, lo, hi, Int.toNat_natCast, decN_natG]
    have hz : ∀ p, i + (canon y).length ≤ p → o.getD p 0 = 0 := by
      intro p hp
      refine zero_above (n := i + (canon y).length) ?_ hp
      rw [he, Nat.pow_add]
      have h1 := val_lt (dig_take (dig_canon x) i)
      have h2 := val_lt (dig_canon y)
      rw [val_canon] at h2
      have h3 : B ^ ((canon x).take i).length = B ^ i := by rw [List.length_take, Nat.min_eq_left hle]
      rw [h3] at h1
      exact Nat.mul_lt_mul_of_lt_of_le h1 (Nat.le_of_lt h2) (Nat.pow_pos (by decide))
    refine ⟨fun hlt => ⟨by simp at hlt; omega, fun _ => ?_⟩, fun hge => ?_⟩
    · have hlt : i < (canon x).length := by simp at hlt; omega
      refine SafeK.loop (ι := I76b x y i (val o)) (fun s => S76b x y i s.j s.c s.o) (fun s => [.arr s.o.length 1 (natG .u32 s.o)]) (fun s => (canon y).length - s.j) ⟨o, 0, 0, hlen, Nat.zero_le _, hd, by decide, hz, by simp [val]⟩ 1 ?_ ?_ (by kernel_rfl)
      · exact ⟨by simp [S76b, magS, natS, eqG_refl], by simp [eqG_refl], by kernel_rfl, Nat.zero_le _⟩
      · rintro ⟨o2, c, j, hlen2, hle2, hd2, hcB, hz2, he2⟩
        refine SafeK.run (k := inside (inside K56 0) 0) hmix G1_ok [0, 1, 5, 6, 7, 8, 18, 19, 20, 25, 26, 27] 400 (T := Tree.ite (decide ((↑j : Int) < (↑(List.length (canon y)) : Int))) (Tree.side ((0 : Int) ≤ (↑j : Int) ∧ (↑j : Int) < (↑(List.length (canon y)) : Int)) (Tree.side (inR IntKind.u64 (↑(List.getD (canon x) i (0 : Nat)) : Int)) (Tree.side (inR IntKind.u64 (↑(List.getD (canon y) (Int.toNat (↑j : Int)) (0 : Nat)) : Int)) (Tree.side (inR IntKind.u64 ((↑(List.getD (canon x) i (0 : Nat)) : Int) * (↑(List.getD (canon y) (Int.toNat (↑j : Int)) (0 : Nat)) : Int))) (Tree.side (inR IntKind.i64 ((↑i : Int) + (↑j : Int))) (Tree.side ((0 : Int) ≤ (↑i : Int) + (↑j : Int) ∧ (↑i : Int) + (↑j : Int) < (↑(List.length o2) : Int)) (Tree.side (inR IntKind.u64 (↑(List.getD o2 ((0 : Nat) + Int.toNat ((↑i : Int) + (↑j : Int))) (0 : Nat)) : Int)) (Tree.side (inR IntKind.u64 ((↑(List.getD (canon x) i (0 : Nat)) : Int) * (↑(List.getD (canon y) (Int.toNat (↑j : Int)) (0 : Nat)) : Int) + (↑(List.getD o2 ((0 : Nat) + Int.toNat ((↑i : Int) + (↑j : Int))) (0 : Nat)) : Int))) (Tree.side (inR IntKind.u64 ((↑(List.getD (canon x) i (0 : Nat)) : Int) * (↑(List.getD (canon y) (Int.toNat (↑j : Int)) (0 : Nat)) : Int) + (↑(List.getD o2 ((0 : Nat) + Int.toNat ((↑i : Int) + (↑j : Int))) (0 : Nat)) : Int) + (↑c : Int))) (Tree.side (inR IntKind.i64 ((↑i : Int) + (↑j : Int))) (Tree.side ((1000000000 : Int) ≠ (0 : Int)) (Tree.side (inR IntKind.u32 (Int.tmod ((↑(List.getD (canon x) i (0 : Nat)) : Int) * (↑(List.getD (canon y) (Int.toNat (↑j : Int)) (0 : Nat)) : Int) + (↑(List.getD o2 ((0 : Nat) + Int.toNat ((↑i : Int) + (↑j : Int))) (0 : Nat)) : Int) + (↑c : Int)) (1000000000 : Int))) (Tree.side ((1000000000 : Int) ≠ (0 : Int) ∧ inR IntKind.u64 (Int.tdiv ((↑(List.getD (canon x) i (0 : Nat)) : Int) * (↑(List.getD (canon y) (Int.toNat (↑j : Int)) (0 : Nat)) : Int) + (↑(List.getD o2 ((0 : Nat) + Int.toNat ((↑i : Int) + (↑j : Int))) (0 : Nat)) : Int) + (↑c : Int)) (1000000000 : Int))) (Tree.side ((0 : Int) ≤ (↑i : Int) + (↑j : Int) ∧ (↑i : Int) + (↑j : Int) < (↑(List.length o2) : Int)) (Tree.side (inR IntKind.i64 ((↑j : Int) + (1 : Int))) (Tree.leaf (Leaf2.back (1 : Nat) [((0 : Nat), AV.sl (List.length (canon x)) (1 : Nat) (natG IntKind.u32 (canon x))), ((1 : Nat), AV.sl (List.length (canon y)) (1 : Nat) (natG IntKind.u32 (canon y))), ((5 : Nat), AV.osl (0 : Nat) (1 : Nat) (0 : Nat) (List.length o2)), ((6 : Nat), AV.int IntKind.i64 (↑i : Int)), ((7 : Nat), AV.int IntKind.u32 (↑(List.getD (canon x) i (0 : Nat)) : Int)), ((8 : Nat), AV.int IntKind.u64 (Int.tdiv ((↑(List.getD (canon x) i (0 : Nat)) : Int) * (↑(List.getD (canon y) (Int.toNat (↑j : Int)) (0 : Nat)) : Int) + (↑(List.getD o2 ((0 : Nat) + Int.toNat ((↑i : Int) + (↑j : Int))) (0 : Nat)) : Int) + (↑c : Int)) (1000000000 : Int))), ((18 : Nat), AV.sl (List.length (canon x)) (1 : Nat) (natG IntKind.u32 (canon x))), ((19 : Nat), AV.int IntKind.i64 (↑(List.length (canon x)) : Int)), ((20 : Nat), AV.int IntKind.i64 (↑i : Int)), ((25 : Nat), AV.sl (List.length (canon y)) (1 : Nat) (natG IntKind.u32 (canon y))), ((26 : Nat), AV.int IntKind.i64 (↑(List.length (canon y)) : Int)), ((27 : Nat), AV.int IntKind.i64 ((↑j : Int) + (1 : Int)))] [Blk.arr (List.length o2) (1 : Nat) (updG (natG IntKind.u32 o2) ((0 : Nat) + Int.toNat ((↑i : Int) + (↑j : Int))) (0 : Nat) [AV.int IntKind.u32 (Int.tmod ((↑(List.getD (canon x) i (0 : Nat)) : Int) * (↑(List.getD (canon y) (Int.toNat (↑j : Int)) (0 : Nat)) : Int) + (↑(List.getD o2 ((0 : Nat) + Int.toNat ((↑i : Int) + (↑j : Int))) (0 : Nat)) : Int) + (↑c : Int)) (1000000000 : Int))])]))))))))))))))))) (Tree.side (inR IntKind.i64 ((↑i : Int) + (↑(List.length (canon y)) : Int))) (Tree.side ((0 : Int) ≤ (↑i : Int) + (↑(List.length (canon y)) : Int) ∧ (↑i : Int) + (↑(List.length (canon y)) : Int) < (↑(List.length o2) : Int)) (Tree.side (inR IntKind.u32 (↑c : Int)) (Tree.side (inR IntKind.u32 ((↑(List.getD o2 ((0 : Nat) + Int.toNat ((↑i : Int) + (↑(List.length (canon y)) : Int))) (0 : Nat)) : Int) + (↑c : Int))) (Tree.side ((0 : Int) ≤ (↑i : Int) + (↑(List.length (canon y)) : Int) ∧ (↑i : Int) + (↑(List.length (canon y)) : Int) < (↑(List.length o2) : Int)) (Tree.side (inR IntKind.i64 ((↑i : Int) + (1 : Int))) (Tree.leaf (Leaf2.back (0 : Nat) [((0 : Nat), AV.sl (List.length (canon x)) (1 : Nat) (natG IntKind.u32 (canon x))), ((1 : Nat), AV.sl (List.length (canon y)) (1 : Nat) (natG IntKind.u32 (canon y))), ((5 : Nat), AV.osl (0 : Nat) (1 : Nat) (0 : Nat) (List.length o2)), ((6 : Nat), AV.int IntKind.i64 (↑i : Int)), ((7 : Nat), AV.int IntKind.u32 (↑(List.getD (canon x) i (0 : Nat)) : Int)), ((8 : Nat), AV.int IntKind.u64 (↑c : Int)), ((18 : Nat), AV.sl (List.length (canon x)) (1 : Nat) (natG IntKind.u32 (canon x))), ((19 : Nat), AV.int IntKind.i64 (↑(List.length (canon x)) : Int)), ((20 : Nat), AV.int IntKind.i64 ((↑i : Int) + (1 : Int))), ((25 : Nat), AV.sl (List.length (canon y)) (1 : Nat) (natG IntKind.u32 (canon y))), ((26 : Nat), AV.int IntKind.i64 (↑(List.length (canon y)) : Int)), ((27 : Nat), AV.int IntKind.i64 (↑j : Int))] [Blk.arr (List.length o2) (1 : Nat) (updG (natG IntKind.u32 o2) ((0 : Nat) + Int.toNat ((↑i : Int) + (↑(List.length (canon y)) : Int))) (0 : Nat) [AV.int IntKind.u32 ((↑(List.getD o2 ((0 : Nat) + Int.toNat ((↑i : Int) + (↑(List.length (canon y)) : Int))) (0 : Nat)) : Int) + (↑c : Int))])]))))))))) (by kernel_rfl) ?_
        have ha := getD_lt (dig_canon x) i
        have hb := getD_lt (dig_canon y) j
        have ho := getD_lt hd2 (i + j)
        have e1 : ((i : Int) + (j : Int)) = ((i + j : Nat) : Int) := by omega
        have e2 : ((i : Int) + ((canon y).length : Int)) = ((i + (canon y).length : Nat) : Int) := by omega
        simp only [Tree.holds, Leafs2, inR, lo, hi, e1, e2, Int.toNat_natCast, Nat.zero_add]
        have e3 : (((canon x).getD i 0 : Nat) : Int) * (((canon y).getD j 0 : Nat) : Int) = (((canon x).getD i 0 * (canon y).getD j 0 : Nat) : Int) := by simp
        have hab : (canon x).getD i 0 * (canon y).getD j 0 ≤ 999999999 * 999999999 := Nat.mul_le_mul (by omega) (by omega)
        generalize hv : (canon x).getD i 0 * (canon y).getD j 0 + o2.getD (i + j) 0 + c = v
        have e4 : (((canon x).getD i 0 : Nat) : Int) * (((canon y).getD j 0 : Nat) : Int) + ((o2.getD (i + j) 0 : Nat) : Int) + (c : Int) = (v : Int) := by rw [e3, ← hv]; omega
        have e5 : (1000000000 : Int) = ((B : Nat) : Int) := rfl
        have hvB : v < 1000000000 * 1000000000 := by omega
        have hdm := Nat.div_add_mod v B
        have hmod : v % B < B := Nat.mod_lt _ (by decide)
        have hdiv : v / B < B := Nat.div_lt_of_lt_mul hvB
        rw [e4, e5, tdivN, tmodN]
        generalize v / B = c' at hdm hdiv ⊢
        generalize v % B = d at hdm hmod ⊢
        rw [e3]
        generalize hab2 : (canon x).getD i 0 * (canon y).getD j 0 = ab at hab hv ⊢
        refine ⟨fun hj => ?_, fun hj => ?_⟩
        · have hj : j < (canon y).length := by simp at hj; omega
          have hp : i + j < o2.length := by omega
          refine ⟨by omega, fun _ => ⟨by omega, fun _ => ⟨by omega, fun _ => ⟨by omega, fun _ => ⟨by omega, fun _ => ⟨by omega, fun _ => ⟨by omega, fun _ => ⟨by omega, fun _ => ⟨by omega, fun _ => ⟨by omega, fun _ => ⟨by omega, fun _ => ⟨by omega, fun _ => ⟨by omega, fun _ => ⟨by omega, fun _ => ⟨by omega, fun _ => ?_⟩⟩⟩⟩⟩⟩⟩⟩⟩⟩⟩⟩⟩⟩⟩
          rw [if_pos trivial]
          have hs := val_set o2 (i + j) d hp
          refine ⟨⟨o2.set (i + j) d, c', j + 1, by simpa using hlen2, by omega, dig_set hd2 _ hmod, hdiv, fun p hp2 => ?_, ?_⟩, by show _ - (j + 1) < _ - j; omega, by simp [S76b, magS, natS, eqG_refl], heap_set rfl hp rfl, by kernel_rfl, Nat.zero_le _⟩
          · have := hz2 p hp2
            simp only [List.getD] at this ⊢
            rw [List.getElem?_set_ne (by omega)]; exact this
          · rw [Nat.pow_add] at hs
            rw [Nat.pow_succ, val_take_succ]
            exact times_step hs he2 hdm (by rw [hab2]; omega)
        · have hj : j = (canon y).length := by simp at hj; omega
          subst hj
          have h0 := hz2 (i + (canon y).length) (Nat.le_refl _)
          have hp : i + (canon y).length < o2.length := by omega
          have hs := val_set o2 (i + (canon y).length) c hp
          refine ⟨by omega, fun _ => ⟨by omega, fun _ => ⟨by omega, fun _ => ⟨by omega, fun _ => ⟨by omega, fun _ => ⟨by omega, fun _ => ?_⟩⟩⟩⟩⟩⟩
          rw [if_neg (by decide), if_pos trivial]
          refine ⟨⟨o2.set (i + (canon y).length) c, i + 1, by simpa using hlen2, by omega, dig_set hd2 _ hcB, ?_⟩, by show _ - (i + 1) < _ - i; omega, by simp [S76, magS, natS, eqG_refl], heap_set (by omega) hp rfl, by kernel_rfl, Nat.zero_le _⟩
          rw [h0, Nat.pow_add] at hs
          rw [List.take_length, val_canon] at he2
          rw [val_take_succ, Nat.add_mul, ← he]
          simp only [Nat.mul_zero, Nat.add_zero] at hs
          rw [hs, he2]
    · have hge : i = (canon x).length := by simp at hge; omega
      subst hge
      rw [List.take_length, val_canon] at he
      refine ⟨o, ⟨rfl, by omega, by omega, eqG_refl _ _ _, by simpa using hd⟩, ⟨_, rfl⟩, ?_⟩
      intro X hX
      have hX : X = x * y := by simpa [he] using hX
      subst hX
      refine ⟨[0], rfl, by simp, by simp, fun _ => ⟨?_, ?_⟩, _, _, ?_, ?_, rfl, hq⟩
      · simp [resV, new2, new1, new0, posIn]
      · intro k hk
        simp only [List.mem_singleton] at hk
        subst hk
        intro j o' _ _
        rfl
      · simp [resV, exp2, exp1, exp0, posIn, eqA2, eqA]
      · have hpad := pad_eq hd
        rw [he, hlen] at hpad
        rw [← hpad]
        simp [expH, expB, hlen, eqG_refl]
end Go.Proofs.Tryd
end

/- The integers' magnitudes: long division. -/
section
set_option linter.unusedVariables false
set_option linter.unusedSimpArgs false
set_option maxRecDepth 100000
open Go Go.Sx Go.Proofs Go.Nov
namespace Go.Proofs.Tryd
attribute [local simp] eqKV eqA eqA0 eqH eqB eqL eqL0
noncomputable def K46 : List Go.Sx.Item := [.code (Tryd.f46.body.getD .skip)]
def G2 : Nat → Option Ctr := fun f => if f = 53 then some (compareC) else if f = 54 then some (shortC) else if f = 55 then some (trimC) else if f = 56 then some (timesC) else if f = 57 then some (guessC) else if f = 58 then some (minusC) else none
theorem G2_ok : ∀ g c, G2 g = some c → CtrOK Tryd.prog g c := by
  intro g c h
  unfold G2 at h
  by_cases hg : g = 53
  · subst hg
    rw [if_pos rfl] at h
    cases h
    exact compare_ok
  rw [if_neg hg] at h
  clear hg
  by_cases hg : g = 54
  · subst hg
    rw [if_pos rfl] at h
    cases h
    exact short_ok
  rw [if_neg hg] at h
  clear hg
  by_cases hg : g = 55
  · subst hg
    rw [if_pos rfl] at h
    cases h
    exact trim_ok
  rw [if_neg hg] at h
  clear hg
  by_cases hg : g = 56
  · subst hg
    rw [if_pos rfl] at h
    cases h
    exact times_ok
  rw [if_neg hg] at h
  clear hg
  by_cases hg : g = 57
  · subst hg
    rw [if_pos rfl] at h
    cases h
    exact guess_ok
  rw [if_neg hg] at h
  clear hg
  by_cases hg : g = 58
  · subst hg
    rw [if_pos rfl] at h
    cases h
    exact minus_ok
  rw [if_neg hg] at h
  clear hg
  cases h

/-- A window of a list of groups, trimmed, is a magnitude. -/
theorem eqG_window {k : IntKind} {u : List Nat} {off n X : Nat} (hd : dig ((u.drop off).take n)) (hX : val ((u.drop off).take n) = X) : eqG (canon X).length 1 (viewG (natG k u) off) (natG k (canon X)) := by
  have h := trim_canon hd
  rw [hX] at h
  have hl := tlen_le ((u.drop off).take n)
  intro j o hj ho
  simp only [viewG, natG, AV.int.injEq, true_and]
  rw [← h] at hj ⊢
  simp only [trimL, List.length_take] at hj ⊢
  have hjn : j < n := by simp at hj hl; omega
  have e : (List.take (tlen ((u.drop off).take n)) ((u.drop off).take n)).getD j 0 = ((u.drop off).take n).getD j 0 := by
    simp only [List.getD, List.getElem?_take]
    rw [if_pos (by omega)]
  rw [e, drop_getD _ _ _ _ hjn]
theorem eqG_one (k : IntKind) (n : Nat) : eqG 1 1 (listG 1 [.int k (n : Int)]) (natG k [n]) := by
  intro j o hj ho
  have : j = 0 := by omega
  have : o = 0 := by omega
  subst_vars; rfl
theorem eqG_view {k : IntKind} {n : Nat} {g : Nat → Nat → AV} {u : List Nat} {off m : Nat} (h : eqG m 1 g (natG k u)) (hm : off + n ≤ m) : eqG n 1 (viewG g off) (viewG (natG k u) off) := by
  intro j o hj ho
  exact h (off + j) o (by omega) ho
theorem eqG_trans {n sz : Nat} {f g h : Nat → Nat → AV} (h1 : eqG n sz f g) (h2 : eqG n sz g h) : eqG n sz f h := fun j o hj ho => (h1 j o hj ho).trans (h2 j o hj ho)
/-- One group as a magnitude. -/
theorem eqG_one_mag {d : Nat} (hd : d < B) : eqG (canon d).length 1 (viewG (listG 1 [.int .u32 (d : Int)]) 0) (natG .u32 (canon d)) := by
  have h1 : dig (([d].drop 0).take 1) := by simpa [dig] using hd
  have h2 : val (([d].drop 0).take 1) = d := by simp [val]
  have h3 := eqG_window (k := .u32) h1 h2
  refine eqG_trans (eqG_view (eqG_one .u32 d) ?_) h3
  have := canon_length_le (x := d) (n := 1) (by simpa using hd)
  omega
theorem eqG_pad {N p : Nat} (hN : (canon p).length ≤ N) : eqG (canon p).length 1 (viewG (natG .u32 (padN N p)) 0) (natG .u32 (canon p)) := by
  intro j o hj ho
  simp only [viewG, natG, Nat.zero_add, padN, AV.int.injEq, true_and]
  congr 1
  simp only [List.getD]
  rw [List.getElem?_append_left hj]
theorem pad_getD (N p i : Nat) : (padN N p).getD i 0 = (canon p).getD i 0 := by
  simp only [padN, List.getD]
  by_cases h : i < (canon p).length
  · rw [List.getElem?_append_left h]
  · rw [List.getElem?_append_right (by omega), List.getElem?_eq_none (show (canon p).length ≤ i by omega)]
    cases hh : (List.replicate (N - (canon p).length) 0)[i - (canon p).length]? with
    | none => rfl
    | some z => have := List.mem_of_getElem? hh; simp at this; simp [this.2]
theorem pad_len {N p : Nat} (h : (canon p).length ≤ N) : (padN N p).length = N := by simp [padN]; omega
theorem pad_dig (N p : Nat) : dig (padN N p) := dig_append.2 ⟨dig_canon _, dig_replicate _⟩
theorem pad_val (N p : Nat) : val (padN N p) = p := by rw [padN, val_append, val_canon, val_replicate]; simp
theorem canon_mul_len (x y : Nat) : (canon (x * y)).length ≤ (canon x).length + (canon y).length := by
  have h1 := val_lt (dig_canon x)
  have h2 := val_lt (dig_canon y)
  rw [val_canon] at h1 h2
  exact canon_length_le (by rw [Nat.pow_add]; exact Nat.mul_lt_mul'' h1 h2)
theorem canon_len_one {d : Nat} (h0 : 0 < d) (hB : d < B) : (canon d).length = 1 := by
  have h1 := canon_length_le (x := d) (n := 1) (by simpa using hB)
  have h2 := le_canon_length (x := d) (n := 0) (by simp; omega)
  omega

def divideC : Ctr := ctr2 false (fun x y => (canon x).length < 100000 ∧ (canon y).length < 100000 ∧ 0 < y) (fun x y (r : Nat × Nat) => r = (x / y, x % y)) (fun _ _ r => (.tup [magS r.1, magS r.2], []))
def SG (x y s k : Nat) : KV := [(0, magS x), (1, magS y), (4, .nils), (8, .int .u32 (s : Int)), (9, .int .i64 (((canon y).length : Nat) : Int)), (10, .osl 1 1 0 k), (11, .undef), (12, .undef), (13, .undef), (15, .undef), (151, .undef), (152, .undef)]
structure IG (x U : Nat) where
  k : Nat
  o : List Nat
  ko : k ≤ o.length
  le : o.length ≤ (canon x).length + 1
  dg : dig (o.take k)
  eq : val (o.take k) = U
def SD (y s V ul ql j : Nat) : KV := [(0, .undef), (1, .undef), (4, .osl 4 1 0 ql), (8, .int .u32 (s : Int)), (9, .int .i64 (((canon y).length : Nat) : Int)), (10, .osl 1 1 0 ul), (11, .osl 3 1 0 (canon V).length), (12, .int .i64 ((j : Int) - 1)), (13, .undef), (15, .undef), (151, .undef), (152, .undef)]
def HD (y V : Nat) (u q : List Nat) : Heap := [.dead, .arr u.length 1 (natG .u32 u), .dead, .arr ((canon y).length + 1) 1 (natG .u32 (padN ((canon y).length + 1) V)), .arr q.length 1 (natG .u32 q)]
structure ID (x y V U : Nat) where
  u : List Nat
  q : List Nat
  j : Nat
  ul : u.length = (canon x).length + 1
  ql : q.length + (canon y).length = (canon x).length + 1
  jq : j ≤ q.length
  du : dig u
  dq : dig q
  eq : U = V * B ^ j * val (q.drop j) + val u
  lt : val u < V * B ^ j
def SC (y s V ul ql j d L i : Nat) : KV := [(0, .undef), (1, .undef), (4, .osl 4 1 0 ql), (8, .int .u32 (s : Int)), (9, .int .i64 (((canon y).length : Nat) : Int)), (10, .osl 1 1 0 ul), (11, .osl 3 1 0 (canon V).length), (12, .int .i64 (j : Int)), (13, .int .u64 (d : Int)), (15, magS L), (151, .int .i64 (((canon y).length + 1 : Nat) : Int)), (152, .int .i64 (i : Int))]

/-- The rest is laid into its window. -/
theorem divide_copy {x y s V U m i : Nat} {u q : List Nat} {O : Nat → Prop} {w0 : World} {Q : AV × Heap → Prop} {Hs0 : Nat → KV → Heap → Prop} (hm : (canon y).length = m + 2) (hx : (canon x).length < 100000) (hs0 : 0 < s) (hsB : s < B) (hV1 : V < B ^ (m + 2)) (hV2 : B ^ (m + 2) ≤ 2 * V) (hVl : (canon V).length = m + 2) (hV0 : 0 < V)
    (hul : u.length = (canon x).length + 1) (hql : q.length + (canon y).length = (canon x).length + 1) (hjq : i + 1 ≤ q.length) (hdu : dig u) (hdq : dig q) (heq : U = V * B ^ (i + 1) * val (q.drop (i + 1)) + val u) (hlt : val u < V * B ^ (i + 1)) {W : Nat} (hW : val ((u.drop i).take (m + 2 + 1)) = W) (hWB : W / V < B) (kv : KV) (h : Heap) (hle : LeK 0 Tryd.f46.ntmps kv h (SC y s V u.length q.length i (W / V) (W % V) 0) (HD y V u q)) :
    SafeK Tryd.prog Tryd.f46 O 0 w0 [] (fun d kv h => if d = 0 then ∃ x' : ID x y V U, x'.j < i + 1 ∧ LeK 0 Tryd.f46.ntmps kv h (SD y s V x'.u.length x'.q.length x'.j) (HD y V x'.u x'.q) else Hs0 d kv h) (RetR divideC 0 Q)
      (.code (.loop (lps (inside (inside K46 0) 0) 0).1) :: (lps (inside (inside K46 0) 0) 0).2) (mk Tryd.f46.ntmps kv h) := by
  have hB : B = 1000000000 := rfl
  have c2 : 0 + (i : Int).toNat = i := by omega
  have hLV := Nat.mod_lt W hV0
  have hLl : (canon (W % V)).length ≤ m + 2 := canon_length_le (by omega)
  refine SafeK.loop (ι := {k : Nat // k ≤ m + 2 + 1}) (fun k => SC y s V u.length q.length i (W / V) (W % V) k.1) (fun k => HD y V (mixL u (canon (W % V)) i k.1) q) (fun k => m + 2 + 1 - k.1) ⟨0, Nat.zero_le _⟩ 1 ?_ ?_ (by kernel_rfl)
  · simpa only [mixL_zero] using hle
  · rintro ⟨k, hk⟩
    obtain ⟨L, hL⟩ : ∃ L, W % V = L := ⟨_, rfl⟩
    obtain ⟨d, hd⟩ : ∃ d, W / V = d := ⟨_, rfl⟩
    simp only [hL, hd]
    obtain ⟨u', hu'⟩ : ∃ u', mixL u (canon L) i k = u' := ⟨_, rfl⟩
    have hu'l : u'.length = u.length := by rw [← hu', mixL_len]
    simp only [hu', ← hu'l]
    rw [hL] at hLl hLV
    refine SafeK.run (k := inside (inside (inside K46 0) 0) 0) hmix G2_ok [0, 1, 4, 8, 9, 10, 11, 12, 13, 15, 151, 152] 400 (T := Tree.ite (decide ((↑k : Int) < (↑(List.length (canon y) + (1 : Nat)) : Int))) (Tree.side (inR IntKind.i64 ((↑i : Int) + (↑k : Int))) (Tree.side ((0 : Int) ≤ (↑i : Int) + (↑k : Int) ∧ (↑i : Int) + (↑k : Int) < (↑(List.length u') : Int)) (Tree.ite (decide ((↑k : Int) < (↑(List.length (canon L)) : Int))) (Tree.side (inR IntKind.i64 ((↑i : Int) + (↑k : Int))) (Tree.side ((0 : Int) ≤ (↑k : Int) ∧ (↑k : Int) < (↑(List.length (canon L)) : Int)) (Tree.side ((0 : Int) ≤ (↑i : Int) + (↑k : Int) ∧ (↑i : Int) + (↑k : Int) < (↑(List.length u') : Int)) (Tree.side (inR IntKind.i64 ((↑k : Int) + (1 : Int))) (Tree.leaf (Leaf2.back (1 : Nat) [((0 : Nat), AV.undef), ((1 : Nat), AV.undef), ((4 : Nat), AV.osl (4 : Nat) (1 : Nat) (0 : Nat) (List.length q)), ((8 : Nat), AV.int IntKind.u32 (↑s : Int)), ((9 : Nat), AV.int IntKind.i64 (↑(List.length (canon y)) : Int)), ((10 : Nat), AV.osl (1 : Nat) (1 : Nat) (0 : Nat) (List.length u')), ((11 : Nat), AV.osl (3 : Nat) (1 : Nat) (0 : Nat) (List.length (canon V))), ((12 : Nat), AV.int IntKind.i64 (↑i : Int)), ((13 : Nat), AV.int IntKind.u64 (↑d : Int)), ((15 : Nat), AV.sl (List.length (canon L)) (1 : Nat) (natG IntKind.u32 (canon L))), ((151 : Nat), AV.int IntKind.i64 (↑(List.length (canon y) + (1 : Nat)) : Int)), ((152 : Nat), AV.int IntKind.i64 ((↑k : Int) + (1 : Int)))] [Blk.dead, Blk.arr (List.length u') (1 : Nat) (updG (updG (natG IntKind.u32 u') ((0 : Nat) + Int.toNat ((↑i : Int) + (↑k : Int))) (0 : Nat) [AV.int IntKind.u32 (0 : Int)]) ((0 : Nat) + Int.toNat ((↑i : Int) + (↑k : Int))) (0 : Nat) [AV.int IntKind.u32 (↑(List.getD (canon L) (Int.toNat (↑k : Int)) (0 : Nat)) : Int)]), Blk.dead, Blk.arr (List.length (canon y) + (1 : Nat)) (1 : Nat) (natG IntKind.u32 (padN (List.length (canon y) + (1 : Nat)) V)), Blk.arr (List.length q) (1 : Nat) (natG IntKind.u32 q)])))))) (Tree.side (inR IntKind.i64 ((↑k : Int) + (1 : Int))) (Tree.leaf (Leaf2.back (1 : Nat) [((0 : Nat), AV.undef), ((1 : Nat), AV.undef), ((4 : Nat), AV.osl (4 : Nat) (1 : Nat) (0 : Nat) (List.length q)), ((8 : Nat), AV.int IntKind.u32 (↑s : Int)), ((9 : Nat), AV.int IntKind.i64 (↑(List.length (canon y)) : Int)), ((10 : Nat), AV.osl (1 : Nat) (1 : Nat) (0 : Nat) (List.length u')), ((11 : Nat), AV.osl (3 : Nat) (1 : Nat) (0 : Nat) (List.length (canon V))), ((12 : Nat), AV.int IntKind.i64 (↑i : Int)), ((13 : Nat), AV.int IntKind.u64 (↑d : Int)), ((15 : Nat), AV.sl (List.length (canon L)) (1 : Nat) (natG IntKind.u32 (canon L))), ((151 : Nat), AV.int IntKind.i64 (↑(List.length (canon y) + (1 : Nat)) : Int)), ((152 : Nat), AV.int IntKind.i64 ((↑k : Int) + (1 : Int)))] [Blk.dead, Blk.arr (List.length u') (1 : Nat) (updG (natG IntKind.u32 u') ((0 : Nat) + Int.toNat ((↑i : Int) + (↑k : Int))) (0 : Nat) [AV.int IntKind.u32 (0 : Int)]), Blk.dead, Blk.arr (List.length (canon y) + (1 : Nat)) (1 : Nat) (natG IntKind.u32 (padN (List.length (canon y) + (1 : Nat)) V)), Blk.arr (List.length q) (1 : Nat) (natG IntKind.u32 q)])))))) (Tree.side (inR IntKind.u32 (↑d : Int)) (Tree.side ((0 : Int) ≤ (↑i : Int) ∧ (↑i : Int) < (↑(List.length q) : Int)) (Tree.side (inR IntKind.i64 ((↑i : Int) - (1 : Int))) (Tree.leaf (Leaf2.back (0 : Nat) [((0 : Nat), AV.undef), ((1 : Nat), AV.undef), ((4 : Nat), AV.osl (4 : Nat) (1 : Nat) (0 : Nat) (List.length q)), ((8 : Nat), AV.int IntKind.u32 (↑s : Int)), ((9 : Nat), AV.int IntKind.i64 (↑(List.length (canon y)) : Int)), ((10 : Nat), AV.osl (1 : Nat) (1 : Nat) (0 : Nat) (List.length u')), ((11 : Nat), AV.osl (3 : Nat) (1 : Nat) (0 : Nat) (List.length (canon V))), ((12 : Nat), AV.int IntKind.i64 ((↑i : Int) - (1 : Int))), ((13 : Nat), AV.int IntKind.u64 (↑d : Int)), ((15 : Nat), AV.sl (List.length (canon L)) (1 : Nat) (natG IntKind.u32 (canon L))), ((151 : Nat), AV.int IntKind.i64 (↑(List.length (canon y) + (1 : Nat)) : Int)), ((152 : Nat), AV.int IntKind.i64 (↑k : Int))] [Blk.dead, Blk.arr (List.length u') (1 : Nat) (natG IntKind.u32 u'), Blk.dead, Blk.arr (List.length (canon y) + (1 : Nat)) (1 : Nat) (natG IntKind.u32 (padN (List.length (canon y) + (1 : Nat)) V)), Blk.arr (List.length q) (1 : Nat) (updG (natG IntKind.u32 q) ((0 : Nat) + Int.toNat (↑i : Int)) (0 : Nat) [AV.int IntKind.u32 (↑d : Int)])])))))) (by kernel_rfl) ?_
    have ek : 0 + ((i : Int) + (k : Int)).toNat = i + k := by omega
    have ek1 : ((k : Int) + 1) = ((k + 1 : Nat) : Int) := by omega
    simp only [Tree.holds, Leafs2, inR, lo, hi, ek, ek1, c2, Int.toNat_natCast]
    refine ⟨fun hlt => ?_, fun hge => ?_⟩
    · have hlt : k < m + 2 + 1 := by simp at hlt; omega
      have hik : i + k < u'.length := by omega
      refine ⟨by omega, fun _ => ⟨by omega, fun _ => ⟨fun hin => ?_, fun hout => ?_⟩⟩⟩
      · have hin : k < (canon L).length := by simp at hin; omega
        iterate 4 refine ⟨by omega, fun _ => ?_⟩
        rw [if_pos trivial]
        refine ⟨⟨k + 1, by omega⟩, by show m + 2 + 1 - (k + 1) < m + 2 + 1 - k; omega, by simp [SC, magS, natS, eqG_refl], ?_, by kernel_rfl, Nat.zero_le _⟩
        have hs2 := mixL_set u (canon L) i k 0
        rw [hu'] at hs2
        simp only [← hs2]
        refine ⟨trivial, ⟨by simp, rfl, ?_⟩, trivial, by simp [eqG_refl], by simp [eqG_refl], trivial⟩
        have h1 := eqG_set (k := .u32) (l := u') (v := 0) (i := i + k) (by omega) hik
        have h2 := eqG_set (k := .u32) (l := u'.set (i + k) 0) (v := ((canon L).getD k 0 : Nat)) (i := i + k) (by omega) (by simpa using hik)
        simp only [List.length_set, Int.toNat_natCast] at h2
        refine eqG_trans ?_ h2
        intro p o hp ho
        have := h1 p o hp ho
        simp only [updG] at this ⊢
        split
        · rfl
        · exact this
      · have hout : (canon L).length ≤ k := by simp at hout; omega
        refine ⟨by omega, fun _ => ?_⟩
        rw [if_pos trivial]
        refine ⟨⟨k + 1, by omega⟩, by show m + 2 + 1 - (k + 1) < m + 2 + 1 - k; omega, by simp [SC, magS, natS, eqG_refl], ?_, by kernel_rfl, Nat.zero_le _⟩
        have hs2 := mixL_set u (canon L) i k 0
        rw [hu'] at hs2
        have hz : (canon L).getD k 0 = 0 := by simp [List.getD, List.getElem?_eq_none hout]
        rw [hz, List.set_set] at hs2
        simp only [← hs2]
        refine ⟨trivial, ⟨by simp, rfl, ?_⟩, trivial, by simp [eqG_refl], by simp [eqG_refl], trivial⟩
        exact eqG_set (k := .u32) (l := u') (v := 0) (i := i + k) (by omega) hik
    · have hk : k = m + 2 + 1 := by simp at hge; omega
      subst hk
      have hdB : d < B := hd ▸ hWB
      iterate 3 refine ⟨by omega, fun _ => ?_⟩
      rw [if_neg (by decide), if_pos trivial]
      have hval := mixL_all (u := u) (L := L) (j := i) (k := m + 2 + 1) (by omega) (by omega)
      rw [hu'] at hval
      have hst := step_eq (u := u) (u' := u') (q := q) (j := i) (k := m + 2 + 1) (V := V) (U0 := U) hdu (by omega) (by simpa using hV1) (by omega) hV0 hlt (by omega) heq (by rw [hW, hL]; exact hval)
      rw [hW, hd] at hst
      refine ⟨⟨u', q.set i d, i, by omega, by simpa using hql, by simp; omega, ?_, dig_set hdq _ hdB, hst.2, hst.1⟩, Nat.lt_succ_self _, by simp [SD, eqG_refl], ?_, by kernel_rfl, Nat.zero_le _⟩
      · rw [← hu']; exact mixL_dig hdu (dig_canon _) _ _
      · refine ⟨trivial, ⟨rfl, rfl, eqG_refl _ _ _⟩, trivial, ⟨rfl, rfl, eqG_refl _ _ _⟩, ⟨by simp, rfl, ?_⟩, trivial⟩
        have := eqG_set (k := .u32) (l := q) (v := (d : Int)) (i := i) (by omega) (by omega)
        simpa using this
set_option maxHeartbeats 2000000 in
/-- A digit. -/
theorem divide_digit {x y s V U m i : Nat} {u q : List Nat} {O : Nat → Prop} {w0 : World} {Q : AV × Heap → Prop} {Hs0 : Nat → KV → Heap → Prop} (hm : (canon y).length = m + 2) (hx : (canon x).length < 100000) (hs0 : 0 < s) (hsB : s < B) (hV1 : V < B ^ (m + 2)) (hV2 : B ^ (m + 2) ≤ 2 * V) (hVl : (canon V).length = m + 2) (hV0 : 0 < V)
    (hul : u.length = (canon x).length + 1) (hql : q.length + (canon y).length = (canon x).length + 1) (hjq : i + 1 ≤ q.length) (hdu : dig u) (hdq : dig q) (heq : U = V * B ^ (i + 1) * val (q.drop (i + 1)) + val u) (hlt : val u < V * B ^ (i + 1)) :
    SafeK Tryd.prog Tryd.f46 O 0 w0 [] (fun d kv h => if d = 0 then ∃ x' : ID x y V U, x'.j < i + 1 ∧ LeK 0 Tryd.f46.ntmps kv h (SD y s V x'.u.length x'.q.length x'.j) (HD y V x'.u x'.q) else Hs0 d kv h) (RetR divideC 0 Q) (inside (inside K46 0) 0) (mk Tryd.f46.ntmps (SD y s V u.length q.length (i + 1)) (HD y V u q)) := by
  have hB : B = 1000000000 := rfl
  refine SafeK.run (k := inside (inside K46 0) 0) hmix G2_ok [0, 1, 4, 8, 9, 10, 11, 12, 13, 15, 151, 152] 400 (T := Tree.ite (decide ((0 : Int) ≤ (↑(i + (1 : Nat)) : Int) - (1 : Int))) (Tree.side (inR IntKind.i64 ((↑(i + (1 : Nat)) : Int) - (1 : Int) + (↑(List.length (canon y)) : Int))) (Tree.side ((0 : Int) ≤ (↑(i + (1 : Nat)) : Int) - (1 : Int) + (↑(List.length (canon y)) : Int) ∧ (↑(i + (1 : Nat)) : Int) - (1 : Int) + (↑(List.length (canon y)) : Int) < (↑(List.length u) : Int)) (Tree.side (inR IntKind.u64 (↑(List.getD u ((0 : Nat) + Int.toNat ((↑(i + (1 : Nat)) : Int) - (1 : Int) + (↑(List.length (canon y)) : Int))) (0 : Nat)) : Int)) (Tree.side (inR IntKind.i64 ((↑(i + (1 : Nat)) : Int) - (1 : Int) + (↑(List.length (canon y)) : Int))) (Tree.side (inR IntKind.i64 ((↑(i + (1 : Nat)) : Int) - (1 : Int) + (↑(List.length (canon y)) : Int) - (1 : Int))) (Tree.side ((0 : Int) ≤ (↑(i + (1 : Nat)) : Int) - (1 : Int) + (↑(List.length (canon y)) : Int) - (1 : Int) ∧ (↑(i + (1 : Nat)) : Int) - (1 : Int) + (↑(List.length (canon y)) : Int) - (1 : Int) < (↑(List.length u) : Int)) (Tree.side (inR IntKind.u64 (↑(List.getD u ((0 : Nat) + Int.toNat ((↑(i + (1 : Nat)) : Int) - (1 : Int) + (↑(List.length (canon y)) : Int) - (1 : Int))) (0 : Nat)) : Int)) (Tree.side (inR IntKind.i64 ((↑(i + (1 : Nat)) : Int) - (1 : Int) + (↑(List.length (canon y)) : Int))) (Tree.side (inR IntKind.i64 ((↑(i + (1 : Nat)) : Int) - (1 : Int) + (↑(List.length (canon y)) : Int) - (2 : Int))) (Tree.side ((0 : Int) ≤ (↑(i + (1 : Nat)) : Int) - (1 : Int) + (↑(List.length (canon y)) : Int) - (2 : Int) ∧ (↑(i + (1 : Nat)) : Int) - (1 : Int) + (↑(List.length (canon y)) : Int) - (2 : Int) < (↑(List.length u) : Int)) (Tree.side (inR IntKind.u64 (↑(List.getD u ((0 : Nat) + Int.toNat ((↑(i + (1 : Nat)) : Int) - (1 : Int) + (↑(List.length (canon y)) : Int) - (2 : Int))) (0 : Nat)) : Int)) (Tree.side (inR IntKind.i64 ((↑(List.length (canon y)) : Int) - (1 : Int))) (Tree.side ((0 : Int) ≤ (↑(List.length (canon y)) : Int) - (1 : Int) ∧ (↑(List.length (canon y)) : Int) - (1 : Int) < (↑(List.length (canon V)) : Int)) (Tree.side (inR IntKind.u64 (↑(List.getD (padN (List.length (canon y) + (1 : Nat)) V) ((0 : Nat) + Int.toNat ((↑(List.length (canon y)) : Int) - (1 : Int))) (0 : Nat)) : Int)) (Tree.side (inR IntKind.i64 ((↑(List.length (canon y)) : Int) - (2 : Int))) (Tree.side ((0 : Int) ≤ (↑(List.length (canon y)) : Int) - (2 : Int) ∧ (↑(List.length (canon y)) : Int) - (2 : Int) < (↑(List.length (canon V)) : Int)) (Tree.side (inR IntKind.u64 (↑(List.getD (padN (List.length (canon y) + (1 : Nat)) V) ((0 : Nat) + Int.toNat ((↑(List.length (canon y)) : Int) - (2 : Int))) (0 : Nat)) : Int)) (Tree.ex (fun (x : D5) => eqL [AV.int IntKind.u64 (↑(List.getD u ((0 : Nat) + Int.toNat ((↑(i + (1 : Nat)) : Int) - (1 : Int) + (↑(List.length (canon y)) : Int))) (0 : Nat)) : Int), AV.int IntKind.u64 (↑(List.getD u ((0 : Nat) + Int.toNat ((↑(i + (1 : Nat)) : Int) - (1 : Int) + (↑(List.length (canon y)) : Int) - (1 : Int))) (0 : Nat)) : Int), AV.int IntKind.u64 (↑(List.getD u ((0 : Nat) + Int.toNat ((↑(i + (1 : Nat)) : Int) - (1 : Int) + (↑(List.length (canon y)) : Int) - (2 : Int))) (0 : Nat)) : Int), AV.int IntKind.u64 (↑(List.getD (padN (List.length (canon y) + (1 : Nat)) V) ((0 : Nat) + Int.toNat ((↑(List.length (canon y)) : Int) - (1 : Int))) (0 : Nat)) : Int), AV.int IntKind.u64 (↑(List.getD (padN (List.length (canon y) + (1 : Nat)) V) ((0 : Nat) + Int.toNat ((↑(List.length (canon y)) : Int) - (2 : Int))) (0 : Nat)) : Int)] [AV.int IntKind.u64 (↑(D5.t x) : Int), AV.int IntKind.u64 (↑(D5.u x) : Int), AV.int IntKind.u64 (↑(D5.v x) : Int), AV.int IntKind.u64 (↑(D5.y x) : Int), AV.int IntKind.u64 (↑(D5.z x) : Int)] ∧ D5.t x ≤ D5.y x ∧ D5.u x < (1000000000 : Nat) ∧ D5.v x < (1000000000 : Nat) ∧ D5.y x < (1000000000 : Nat) ∧ D5.z x < (1000000000 : Nat) ∧ (1000000000 : Nat) ≤ (2 : Nat) * D5.y x) fun (n : D5) => Tree.all (fun (n_1 : Nat) => n_1 = guessF (D5.v n) (D5.y n) (D5.z n) (2 : Nat) ((D5.t n * (1000000000 : Nat) + D5.u n) / D5.y n) ((D5.t n * (1000000000 : Nat) + D5.u n) % D5.y n)) fun (n : Nat) => Tree.side (inR IntKind.u32 (↑n : Int)) (Tree.ex (fun (u : List Nat) => List.length u = (1 : Nat) ∧ (1 : Nat) ≤ (1 : Nat) ∧ (1 : Nat) < (4611686018427387904 : Nat) ∧ eqG (1 : Nat) (1 : Nat) (listG (1 : Nat) [AV.int IntKind.u32 (↑n : Int)]) (natG IntKind.u32 u) ∧ dig (List.take (1 : Nat) (List.drop (0 : Nat) u))) fun (n_1 : List Nat) => Tree.all (fun (x : Nat) => x = val (List.take (1 : Nat) (List.drop (0 : Nat) n_1))) fun (n_2 : Nat) => Tree.ex (fun (x : Nat × Nat) => eqL [AV.sl (List.length (canon V)) (1 : Nat) (viewG (natG IntKind.u32 (padN (List.length (canon y) + (1 : Nat)) V)) (0 : Nat)), AV.sl (List.length (canon n_2)) (1 : Nat) (viewG (listG (1 : Nat) [AV.int IntKind.u32 (↑n : Int)]) (0 : Nat))] [AV.sl (List.length (canon (Prod.fst x))) (1 : Nat) (natG IntKind.u32 (canon (Prod.fst x))), AV.sl (List.length (canon (Prod.snd x))) (1 : Nat) (natG IntKind.u32 (canon (Prod.snd x)))] ∧ fits (Prod.fst x) ∧ fits (Prod.snd x)) fun (n_3 : Nat × Nat) => Tree.all (fun (p : Nat) => p = Prod.fst n_3 * Prod.snd n_3) fun (n_4 : Nat) => Tree.side (inR IntKind.i64 ((↑(i + (1 : Nat)) : Int) - (1 : Int) + (↑(List.length (canon y)) : Int))) (Tree.side (inR IntKind.i64 ((↑(i + (1 : Nat)) : Int) - (1 : Int) + (↑(List.length (canon y)) : Int) + (1 : Int))) (Tree.side ((0 : Int) ≤ (↑(i + (1 : Nat)) : Int) - (1 : Int) ∧ (↑(i + (1 : Nat)) : Int) - (1 : Int) ≤ (↑(i + (1 : Nat)) : Int) - (1 : Int) + (↑(List.length (canon y)) : Int) + (1 : Int) ∧ (↑(i + (1 : Nat)) : Int) - (1 : Int) + (↑(List.length (canon y)) : Int) + (1 : Int) ≤ (↑(List.length u) : Int)) (Tree.ex (fun (u_1 : List Nat) => List.length u_1 = List.length u ∧ (0 : Nat) + Int.toNat ((↑(i + (1 : Nat)) : Int) - (1 : Int)) + (Int.toNat ((↑(i + (1 : Nat)) : Int) - (1 : Int) + (↑(List.length (canon y)) : Int) + (1 : Int)) - Int.toNat ((↑(i + (1 : Nat)) : Int) - (1 : Int))) ≤ List.length u ∧ Int.toNat ((↑(i + (1 : Nat)) : Int) - (1 : Int) + (↑(List.length (canon y)) : Int) + (1 : Int)) - Int.toNat ((↑(i + (1 : Nat)) : Int) - (1 : Int)) < (4611686018427387904 : Nat) ∧ eqG (List.length u) (1 : Nat) (natG IntKind.u32 u) (natG IntKind.u32 u_1) ∧ dig (List.take (Int.toNat ((↑(i + (1 : Nat)) : Int) - (1 : Int) + (↑(List.length (canon y)) : Int) + (1 : Int)) - Int.toNat ((↑(i + (1 : Nat)) : Int) - (1 : Int))) (List.drop ((0 : Nat) + Int.toNat ((↑(i + (1 : Nat)) : Int) - (1 : Int))) u_1))) fun (n_5 : List Nat) => Tree.all (fun (x : Nat) => x = val (List.take (Int.toNat ((↑(i + (1 : Nat)) : Int) - (1 : Int) + (↑(List.length (canon y)) : Int) + (1 : Int)) - Int.toNat ((↑(i + (1 : Nat)) : Int) - (1 : Int))) (List.drop ((0 : Nat) + Int.toNat ((↑(i + (1 : Nat)) : Int) - (1 : Int))) n_5))) fun (n_6 : Nat) => Tree.ex (fun (x : Nat × Nat) => eqL [AV.sl (List.length (canon n_6)) (1 : Nat) (viewG (natG IntKind.u32 u) ((0 : Nat) + Int.toNat ((↑(i + (1 : Nat)) : Int) - (1 : Int)))), AV.sl (List.length (canon n_4)) (1 : Nat) (viewG (natG IntKind.u32 (padN (List.length (canon (Prod.fst n_3)) + List.length (canon (Prod.snd n_3))) n_4)) (0 : Nat))] [AV.sl (List.length (canon (Prod.fst x))) (1 : Nat) (natG IntKind.u32 (canon (Prod.fst x))), AV.sl (List.length (canon (Prod.snd x))) (1 : Nat) (natG IntKind.u32 (canon (Prod.snd x)))] ∧ fits (Prod.fst x) ∧ fits (Prod.snd x)) fun (n_7 : Nat × Nat) => Tree.all (fun (r : Int) => r = cmp3 (Prod.fst n_7) (Prod.snd n_7)) fun (n_8 : Int) => Tree.ite (decide (n_8 < (0 : Int))) (Tree.side (inR IntKind.u64 ((↑n : Int) - (1 : Int))) (Tree.side (inR IntKind.u32 ((↑n : Int) - (1 : Int))) (Tree.ex (fun (u : List Nat) => List.length u = (1 : Nat) ∧ (1 : Nat) ≤ (1 : Nat) ∧ (1 : Nat) < (4611686018427387904 : Nat) ∧ eqG (1 : Nat) (1 : Nat) (listG (1 : Nat) [AV.int IntKind.u32 ((↑n : Int) - (1 : Int))]) (natG IntKind.u32 u) ∧ dig (List.take (1 : Nat) (List.drop (0 : Nat) u))) fun (n_9 : List Nat) => Tree.all (fun (x : Nat) => x = val (List.take (1 : Nat) (List.drop (0 : Nat) n_9))) fun (n_10 : Nat) => Tree.ex (fun (x : Nat × Nat) => eqL [AV.sl (List.length (canon V)) (1 : Nat) (viewG (natG IntKind.u32 (padN (List.length (canon y) + (1 : Nat)) V)) (0 : Nat)), AV.sl (List.length (canon n_10)) (1 : Nat) (viewG (listG (1 : Nat) [AV.int IntKind.u32 ((↑n : Int) - (1 : Int))]) (0 : Nat))] [AV.sl (List.length (canon (Prod.fst x))) (1 : Nat) (natG IntKind.u32 (canon (Prod.fst x))), AV.sl (List.length (canon (Prod.snd x))) (1 : Nat) (natG IntKind.u32 (canon (Prod.snd x)))] ∧ fits (Prod.fst x) ∧ fits (Prod.snd x)) fun (n_11 : Nat × Nat) => Tree.all (fun (p : Nat) => p = Prod.fst n_11 * Prod.snd n_11) fun (n_12 : Nat) => Tree.side (inR IntKind.i64 ((↑(i + (1 : Nat)) : Int) - (1 : Int) + (↑(List.length (canon y)) : Int))) (Tree.side (inR IntKind.i64 ((↑(i + (1 : Nat)) : Int) - (1 : Int) + (↑(List.length (canon y)) : Int) + (1 : Int))) (Tree.side ((0 : Int) ≤ (↑(i + (1 : Nat)) : Int) - (1 : Int) ∧ (↑(i + (1 : Nat)) : Int) - (1 : Int) ≤ (↑(i + (1 : Nat)) : Int) - (1 : Int) + (↑(List.length (canon y)) : Int) + (1 : Int) ∧ (↑(i + (1 : Nat)) : Int) - (1 : Int) + (↑(List.length (canon y)) : Int) + (1 : Int) ≤ (↑(List.length u) : Int)) (Tree.ex (fun (u_1 : List Nat) => List.length u_1 = List.length u ∧ (0 : Nat) + Int.toNat ((↑(i + (1 : Nat)) : Int) - (1 : Int)) + (Int.toNat ((↑(i + (1 : Nat)) : Int) - (1 : Int) + (↑(List.length (canon y)) : Int) + (1 : Int)) - Int.toNat ((↑(i + (1 : Nat)) : Int) - (1 : Int))) ≤ List.length u ∧ Int.toNat ((↑(i + (1 : Nat)) : Int) - (1 : Int) + (↑(List.length (canon y)) : Int) + (1 : Int)) - Int.toNat ((↑(i + (1 : Nat)) : Int) - (1 : Int)) < (4611686018427387904 : Nat) ∧ eqG (List.length u) (1 : Nat) (natG IntKind.u32 u) (natG IntKind.u32 u_1) ∧ dig (List.take (Int.toNat ((↑(i + (1 : Nat)) : Int) - (1 : Int) + (↑(List.length (canon y)) : Int) + (1 : Int)) - Int.toNat ((↑(i + (1 : Nat)) : Int) - (1 : Int))) (List.drop ((0 : Nat) + Int.toNat ((↑(i + (1 : Nat)) : Int) - (1 : Int))) u_1))) fun (n_13 : List Nat) => Tree.all (fun (x : Nat) => x = val (List.take (Int.toNat ((↑(i + (1 : Nat)) : Int) - (1 : Int) + (↑(List.length (canon y)) : Int) + (1 : Int)) - Int.toNat ((↑(i + (1 : Nat)) : Int) - (1 : Int))) (List.drop ((0 : Nat) + Int.toNat ((↑(i + (1 : Nat)) : Int) - (1 : Int))) n_13))) fun (n_14 : Nat) => Tree.ex (fun (x : Nat × Nat) => eqL [AV.sl (List.length (canon n_14)) (1 : Nat) (viewG (natG IntKind.u32 u) ((0 : Nat) + Int.toNat ((↑(i + (1 : Nat)) : Int) - (1 : Int)))), AV.sl (List.length (canon n_12)) (1 : Nat) (viewG (natG IntKind.u32 (padN (List.length (canon (Prod.fst n_11)) + List.length (canon (Prod.snd n_11))) n_12)) (0 : Nat))] [AV.sl (List.length (canon (Prod.fst x))) (1 : Nat) (natG IntKind.u32 (canon (Prod.fst x))), AV.sl (List.length (canon (Prod.snd x))) (1 : Nat) (natG IntKind.u32 (canon (Prod.snd x)))] ∧ fits (Prod.fst x) ∧ Prod.snd x ≤ Prod.fst x) fun (n_15 : Nat × Nat) => Tree.all (fun (d : Nat) => d = Prod.fst n_15 - Prod.snd n_15) fun (n_16 : Nat) => Tree.side (inR IntKind.i64 ((↑(List.length (canon y)) : Int) + (1 : Int))) (Tree.leaf (Leaf2.loop (Prod.fst (lps (inside (inside K46 (0 : Nat)) (0 : Nat)) (0 : Nat))) (Prod.snd (lps (inside (inside K46 (0 : Nat)) (0 : Nat)) (0 : Nat))) [((0 : Nat), AV.undef), ((1 : Nat), AV.undef), ((4 : Nat), AV.osl (4 : Nat) (1 : Nat) (0 : Nat) (List.length q)), ((8 : Nat), AV.int IntKind.u32 (↑s : Int)), ((9 : Nat), AV.int IntKind.i64 (↑(List.length (canon y)) : Int)), ((10 : Nat), AV.osl (1 : Nat) (1 : Nat) (0 : Nat) (List.length u)), ((11 : Nat), AV.osl (3 : Nat) (1 : Nat) (0 : Nat) (List.length (canon V))), ((12 : Nat), AV.int IntKind.i64 ((↑(i + (1 : Nat)) : Int) - (1 : Int))), ((13 : Nat), AV.int IntKind.u64 ((↑n : Int) - (1 : Int))), ((15 : Nat), AV.sl (List.length (canon n_16)) (1 : Nat) (natG IntKind.u32 (canon n_16))), ((151 : Nat), AV.int IntKind.i64 ((↑(List.length (canon y)) : Int) + (1 : Int))), ((152 : Nat), AV.int IntKind.i64 (0 : Int))] [Blk.dead, Blk.arr (List.length u) (1 : Nat) (natG IntKind.u32 u), Blk.dead, Blk.arr (List.length (canon y) + (1 : Nat)) (1 : Nat) (natG IntKind.u32 (padN (List.length (canon y) + (1 : Nat)) V)), Blk.arr (List.length q) (1 : Nat) (natG IntKind.u32 q), Blk.arr (1 : Nat) (1 : Nat) (listG (1 : Nat) [AV.int IntKind.u32 (↑n : Int)]), Blk.arr (List.length (canon (Prod.fst n_3)) + List.length (canon (Prod.snd n_3))) (1 : Nat) (natG IntKind.u32 (padN (List.length (canon (Prod.fst n_3)) + List.length (canon (Prod.snd n_3))) n_4)), Blk.arr (1 : Nat) (1 : Nat) (listG (1 : Nat) [AV.int IntKind.u32 ((↑n : Int) - (1 : Int))]), Blk.arr (List.length (canon (Prod.fst n_11)) + List.length (canon (Prod.snd n_11))) (1 : Nat) (natG IntKind.u32 (padN (List.length (canon (Prod.fst n_11)) + List.length (canon (Prod.snd n_11))) n_12))])))))))) (Tree.side (inR IntKind.i64 ((↑(i + (1 : Nat)) : Int) - (1 : Int) + (↑(List.length (canon y)) : Int))) (Tree.side (inR IntKind.i64 ((↑(i + (1 : Nat)) : Int) - (1 : Int) + (↑(List.length (canon y)) : Int) + (1 : Int))) (Tree.side ((0 : Int) ≤ (↑(i + (1 : Nat)) : Int) - (1 : Int) ∧ (↑(i + (1 : Nat)) : Int) - (1 : Int) ≤ (↑(i + (1 : Nat)) : Int) - (1 : Int) + (↑(List.length (canon y)) : Int) + (1 : Int) ∧ (↑(i + (1 : Nat)) : Int) - (1 : Int) + (↑(List.length (canon y)) : Int) + (1 : Int) ≤ (↑(List.length u) : Int)) (Tree.ex (fun (u_1 : List Nat) => List.length u_1 = List.length u ∧ (0 : Nat) + Int.toNat ((↑(i + (1 : Nat)) : Int) - (1 : Int)) + (Int.toNat ((↑(i + (1 : Nat)) : Int) - (1 : Int) + (↑(List.length (canon y)) : Int) + (1 : Int)) - Int.toNat ((↑(i + (1 : Nat)) : Int) - (1 : Int))) ≤ List.length u ∧ Int.toNat ((↑(i + (1 : Nat)) : Int) - (1 : Int) + (↑(List.length (canon y)) : Int) + (1 : Int)) - Int.toNat ((↑(i + (1 : Nat)) : Int) - (1 : Int)) < (4611686018427387904 : Nat) ∧ eqG (List.length u) (1 : Nat) (natG IntKind.u32 u) (natG IntKind.u32 u_1) ∧ dig (List.take (Int.toNat ((↑(i + (1 : Nat)) : Int) - (1 : Int) + (↑(List.length (canon y)) : Int) + (1 : Int)) - Int.toNat ((↑(i + (1 : Nat)) : Int) - (1 : Int))) (List.drop ((0 : Nat) + Int.toNat ((↑(i + (1 : Nat)) : Int) - (1 : Int))) u_1))) fun (n_9 : List Nat) => Tree.all (fun (x : Nat) => x = val (List.take (Int.toNat ((↑(i + (1 : Nat)) : Int) - (1 : Int) + (↑(List.length (canon y)) : Int) + (1 : Int)) - Int.toNat ((↑(i + (1 : Nat)) : Int) - (1 : Int))) (List.drop ((0 : Nat) + Int.toNat ((↑(i + (1 : Nat)) : Int) - (1 : Int))) n_9))) fun (n_10 : Nat) => Tree.ex (fun (x : Nat × Nat) => eqL [AV.sl (List.length (canon n_10)) (1 : Nat) (viewG (natG IntKind.u32 u) ((0 : Nat) + Int.toNat ((↑(i + (1 : Nat)) : Int) - (1 : Int)))), AV.sl (List.length (canon n_4)) (1 : Nat) (viewG (natG IntKind.u32 (padN (List.length (canon (Prod.fst n_3)) + List.length (canon (Prod.snd n_3))) n_4)) (0 : Nat))] [AV.sl (List.length (canon (Prod.fst x))) (1 : Nat) (natG IntKind.u32 (canon (Prod.fst x))), AV.sl (List.length (canon (Prod.snd x))) (1 : Nat) (natG IntKind.u32 (canon (Prod.snd x)))] ∧ fits (Prod.fst x) ∧ Prod.snd x ≤ Prod.fst x) fun (n_11 : Nat × Nat) => Tree.all (fun (d : Nat) => d = Prod.fst n_11 - Prod.snd n_11) fun (n_12 : Nat) => Tree.side (inR IntKind.i64 ((↑(List.length (canon y)) : Int) + (1 : Int))) (Tree.leaf (Leaf2.loop (Prod.fst (lps (inside (inside K46 (0 : Nat)) (0 : Nat)) (0 : Nat))) (Prod.snd (lps (inside (inside K46 (0 : Nat)) (0 : Nat)) (0 : Nat))) [((0 : Nat), AV.undef), ((1 : Nat), AV.undef), ((4 : Nat), AV.osl (4 : Nat) (1 : Nat) (0 : Nat) (List.length q)), ((8 : Nat), AV.int IntKind.u32 (↑s : Int)), ((9 : Nat), AV.int IntKind.i64 (↑(List.length (canon y)) : Int)), ((10 : Nat), AV.osl (1 : Nat) (1 : Nat) (0 : Nat) (List.length u)), ((11 : Nat), AV.osl (3 : Nat) (1 : Nat) (0 : Nat) (List.length (canon V))), ((12 : Nat), AV.int IntKind.i64 ((↑(i + (1 : Nat)) : Int) - (1 : Int))), ((13 : Nat), AV.int IntKind.u64 (↑n : Int)), ((15 : Nat), AV.sl (List.length (canon n_12)) (1 : Nat) (natG IntKind.u32 (canon n_12))), ((151 : Nat), AV.int IntKind.i64 ((↑(List.length (canon y)) : Int) + (1 : Int))), ((152 : Nat), AV.int IntKind.i64 (0 : Int))] [Blk.dead, Blk.arr (List.length u) (1 : Nat) (natG IntKind.u32 u), Blk.dead, Blk.arr (List.length (canon y) + (1 : Nat)) (1 : Nat) (natG IntKind.u32 (padN (List.length (canon y) + (1 : Nat)) V)), Blk.arr (List.length q) (1 : Nat) (natG IntKind.u32 q), Blk.arr (1 : Nat) (1 : Nat) (listG (1 : Nat) [AV.int IntKind.u32 (↑n : Int)]), Blk.arr (List.length (canon (Prod.fst n_3)) + List.length (canon (Prod.snd n_3))) (1 : Nat) (natG IntKind.u32 (padN (List.length (canon (Prod.fst n_3)) + List.length (canon (Prod.snd n_3))) n_4))])))))))))))))))))))))))))))) (Tree.ex (fun (u_1 : List Nat) => List.length u_1 = List.length u ∧ (0 : Nat) + List.length u ≤ List.length u ∧ List.length u < (4611686018427387904 : Nat) ∧ eqG (List.length u) (1 : Nat) (natG IntKind.u32 u) (natG IntKind.u32 u_1) ∧ dig (List.take (List.length u) (List.drop (0 : Nat) u_1))) fun (n : List Nat) => Tree.all (fun (x : Nat) => x = val (List.take (List.length u) (List.drop (0 : Nat) n))) fun (n : Nat) => Tree.ex (fun (x : Nat × Nat) => eqL [AV.sl (List.length (canon n)) (1 : Nat) (viewG (natG IntKind.u32 u) (0 : Nat)), AV.int IntKind.u32 (↑s : Int)] [AV.sl (List.length (canon (Prod.fst x))) (1 : Nat) (natG IntKind.u32 (canon (Prod.fst x))), AV.int IntKind.u32 (↑(Prod.snd x) : Int)] ∧ fits (Prod.fst x) ∧ (0 : Nat) < Prod.snd x ∧ Prod.snd x < (1000000000 : Nat)) fun (n : Nat × Nat) => Tree.all (fun (r : Nat × Nat) => r = (Prod.fst n / Prod.snd n, Prod.fst n % Prod.snd n)) fun (n : Nat × Nat) => Tree.ex (fun (u : List Nat) => List.length u = List.length q ∧ (0 : Nat) + List.length q ≤ List.length q ∧ List.length q < (4611686018427387904 : Nat) ∧ eqG (List.length q) (1 : Nat) (natG IntKind.u32 q) (natG IntKind.u32 u) ∧ dig (List.take (List.length q) (List.drop (0 : Nat) u))) fun (n_1 : List Nat) => Tree.all (fun (x : Nat) => x = val (List.take (List.length q) (List.drop (0 : Nat) n_1))) fun (n_2 : Nat) => Tree.leaf (Leaf2.ret [AV.osl (4 : Nat) (1 : Nat) (0 : Nat) (List.length (canon n_2)), AV.sl (List.length (canon (Prod.fst n))) (1 : Nat) (natG IntKind.u32 (canon (Prod.fst n)))] [Blk.dead, Blk.arr (List.length u) (1 : Nat) (natG IntKind.u32 u), Blk.dead, Blk.arr (List.length (canon y) + (1 : Nat)) (1 : Nat) (natG IntKind.u32 (padN (List.length (canon y) + (1 : Nat)) V)), Blk.arr (List.length q) (1 : Nat) (natG IntKind.u32 q)]))) (by kernel_rfl) ?_
  simp only [Tree.holds, Leafs2, inR, lo, hi]
  refine ⟨fun hj => ?_, fun hj => by simp at hj⟩
  have ej : (((i + 1 : Nat) : Int) - 1) = (i : Int) := by omega
  have a1 : 0 + ((i : Int) + ((canon y).length : Int)).toNat = i + (m + 2) := by omega
  have a2 : 0 + ((i : Int) + ((canon y).length : Int) - 1).toNat = i + (m + 1) := by omega
  have a3 : 0 + ((i : Int) + ((canon y).length : Int) - 2).toNat = i + m := by omega
  have b1 : 0 + (((canon y).length : Int) - 1).toNat = m + 1 := by omega
  have b2 : 0 + (((canon y).length : Int) - 2).toNat = m := by omega
  have c1 : ((i : Int) + ((canon y).length : Int) + 1).toNat - (i : Int).toNat = m + 2 + 1 := by omega
  have c2 : 0 + (i : Int).toNat = i := by omega
  simp only [ej, a1, a2, a3, b1, b2, c1, c2, pad_getD]
  have hu1 := getD_lt hdu (i + (m + 2))
  have hu2 := getD_lt hdu (i + (m + 1))
  have hu3 := getD_lt hdu (i + m)
  have hv1 := getD_lt (dig_canon V) (m + 1)
  have hv2 := getD_lt (dig_canon V) m
  iterate 17 refine ⟨by omega, fun _ => ?_⟩
  obtain ⟨W, hW⟩ : ∃ W, val ((u.drop i).take (m + 2 + 1)) = W := ⟨_, rfl⟩
  have hdw : dig ((u.drop i).take (m + 2 + 1)) := dig_take (dig_drop hdu _) _
  have hWl : (canon W).length ≤ m + 2 + 1 := by
    refine canon_length_le ?_
    have := val_lt hdw
    rw [hW, List.length_take] at this
    exact Nat.lt_of_lt_of_le this (Nat.pow_le_pow_right (by decide) (Nat.min_le_left _ _))
  obtain ⟨g1, g2, g3, g4, g5, g6⟩ := digit_ok hdu (by omega) hVl hV2 hlt hW rfl
  refine ⟨⟨u.getD (i + (m + 2)) 0, u.getD (i + (m + 1)) 0, u.getD (i + m) 0, (canon V).getD (m + 1) 0, (canon V).getD m 0⟩, ⟨by simp, g3, hu2, hu3, hv1, hv2, g2⟩, ⟨_, rfl⟩, ?_⟩
  intro d hd
  simp only at hd
  rw [← hd] at g4 g5 g6
  clear hd
  have hWVB : W / V < B := by omega
  have fin := divide_copy (x := x) (y := y) (s := s) (V := V) (U := U) (O := O) (w0 := w0) (Q := Q) (Hs0 := Hs0) hm hx hs0 hsB hV1 hV2 hVl hV0 hul hql hjq hdu hdq heq hlt hW hWVB
  have hdm := Nat.div_add_mod W V
  have hmlt := Nat.mod_lt W hV0
  have hul2 : i + (m + 2 + 1) ≤ u.length := by omega
  have hul3 : u.length < 100002 := by omega
  clear heq hlt hul hql hjq hdq hx hs0 hsB hV2 g1 g2 g3 hu1 hu2 hu3 hv1 hv2 hj a1 a2 a3 b1 b2
  generalize W / V = qd at *
  generalize W % V = rm at *
  refine ⟨by omega, fun _ => ?_⟩
  refine ⟨[d], ⟨rfl, by omega, by omega, eqG_one _ _, by simpa [dig] using g6⟩, ⟨_, rfl⟩, ?_⟩
  intro D hD
  have hD : D = d := by simpa [val] using hD
  subst hD
  have hdl := canon_length_le (x := D) (n := 1) (by simpa using g6)
  refine ⟨(V, D), ⟨?_, by simp only [fits]; omega, by simp only [fits]; omega⟩, ⟨_, rfl⟩, ?_⟩
  · simp only [eqL, eqA, eqA0, true_and, and_true]
    exact ⟨eqG_pad (by omega), eqG_one_mag g6⟩
  intro p hp
  simp only at hp ⊢
  have hpl := canon_mul_len V D
  rw [← hp] at hpl
  iterate 3 refine ⟨by omega, fun _ => ?_⟩
  refine ⟨u, ⟨rfl, hul2, by omega, eqG_refl _ _ _, hdw⟩, ⟨_, rfl⟩, ?_⟩
  intro W' hW'
  have hW' : W' = W := hW'.trans hW
  subst hW'
  refine ⟨(W', p), ⟨?_, by simp only [fits]; omega, by simp only [fits]; omega⟩, ⟨_, rfl⟩, ?_⟩
  · simp only [eqL, eqA, eqA0, true_and, and_true]
    exact ⟨eqG_window hdw hW, eqG_pad hpl⟩
  rintro c rfl
  refine ⟨fun hlt2 => ?_, fun hge2 => ?_⟩
  · have hlt2 : W' < p := by
      simp only [cmp3, decide_eq_true_eq] at hlt2
      rcases Nat.lt_or_ge W' p with h | h
      · exact h
      · rw [if_neg (by omega)] at hlt2; split at hlt2 <;> omega
    have hDQ : D = qd + 1 := by
      rcases Nat.lt_or_ge qd D with h | h
      · omega
      · have : V * D ≤ V * qd := Nat.mul_le_mul_left _ h
        omega
    have e3 : ((D : Int) - 1) = ((qd : Nat) : Int) := by omega
    simp only [e3]
    have hQl := canon_length_le (x := qd) (n := 1) (by simpa using hWVB)
    iterate 2 refine ⟨by omega, fun _ => ?_⟩
    refine ⟨[qd], ⟨rfl, by omega, by omega, eqG_one _ _, by simpa [dig] using hWVB⟩, ⟨_, rfl⟩, ?_⟩
    intro E hE
    have hE : E = qd := by simpa [val] using hE
    subst hE
    refine ⟨(V, E), ⟨?_, by simp only [fits]; omega, by simp only [fits]; omega⟩, ⟨_, rfl⟩, ?_⟩
    · simp only [eqL, eqA, eqA0, true_and, and_true]
      exact ⟨eqG_pad (by omega), eqG_one_mag hWVB⟩
    intro p2 hp2
    simp only at hp2 ⊢
    have hp2l := canon_mul_len V E
    rw [← hp2] at hp2l
    iterate 3 refine ⟨by omega, fun _ => ?_⟩
    refine ⟨u, ⟨rfl, hul2, by omega, eqG_refl _ _ _, hdw⟩, ⟨_, rfl⟩, ?_⟩
    intro W2 hW2
    have hW2 : W2 = W' := hW2.trans hW
    subst hW2
    refine ⟨(W2, p2), ⟨?_, by simp only [fits]; omega, by simp only; omega⟩, ⟨_, rfl⟩, ?_⟩
    · simp only [eqL, eqA, eqA0, true_and, and_true]
      exact ⟨eqG_window hdw hW, eqG_pad hp2l⟩
    intro L hL
    simp only at hL ⊢
    have hL : L = rm := by omega
    subst hL
    refine ⟨by omega, fun _ => ?_⟩
    refine fin _ _ ⟨by simp [SC, magS, natS, eqG_refl, hVl], ?_, by kernel_rfl, Nat.zero_le _⟩
    simp [HD, eqG_refl]
  · have hge2 : p ≤ W' := by
      simp only [cmp3, decide_eq_false_iff_not] at hge2
      rcases Nat.lt_or_ge W' p with h | h
      · rw [if_pos h] at hge2; omega
      · exact h
    have hDQ : D = qd := by
      rcases Nat.lt_or_ge qd D with h | h
      · have : V * (qd + 1) ≤ V * D := Nat.mul_le_mul_left _ h
        rw [Nat.mul_add] at this
        omega
      · omega
    subst hDQ
    iterate 3 refine ⟨by omega, fun _ => ?_⟩
    refine ⟨u, ⟨rfl, hul2, by omega, eqG_refl _ _ _, hdw⟩, ⟨_, rfl⟩, ?_⟩
    intro W2 hW2
    have hW2 : W2 = W' := hW2.trans hW
    subst hW2
    refine ⟨(W2, p), ⟨?_, by simp only [fits]; omega, hge2⟩, ⟨_, rfl⟩, ?_⟩
    · simp only [eqL, eqA, eqA0, true_and, and_true]
      exact ⟨eqG_window hdw hW, eqG_pad hpl⟩
    intro L hL
    simp only at hL ⊢
    have hL : L = rm := by omega
    subst hL
    refine ⟨by omega, fun _ => ?_⟩
    refine fin _ _ ⟨by simp [SC, magS, natS, eqG_refl, hVl], ?_, by kernel_rfl, Nat.zero_le _⟩
    simp [HD, eqG_refl]
set_option maxHeartbeats 4000000 in
theorem divide_ok : CtrOK Tryd.prog 46 divideC := by
  refine fn_ctr2 (fn := Tryd.f46) (c := Tryd.f46.body.getD .skip) rfl rfl rfl fun x y hp O w0 Q hq => ?_
  replace hq := hq _ rfl
  obtain ⟨hx, hy, hy0⟩ := hp
  simp only at hq
  have hB : B = 1000000000 := rfl
  refine SafeK.run (k := K46) hmix G2_ok [0, 1, 4, 8, 9, 10, 11, 12, 13, 15, 151, 152] 400 (T := Tree.ex (fun (x_1 : Nat × Nat) => eqL [AV.sl (List.length (canon x)) (1 : Nat) (natG IntKind.u32 (canon x)), AV.sl (List.length (canon y)) (1 : Nat) (natG IntKind.u32 (canon y))] [AV.sl (List.length (canon (Prod.fst x_1))) (1 : Nat) (natG IntKind.u32 (canon (Prod.fst x_1))), AV.sl (List.length (canon (Prod.snd x_1))) (1 : Nat) (natG IntKind.u32 (canon (Prod.snd x_1)))] ∧ fits (Prod.fst x_1) ∧ fits (Prod.snd x_1)) fun (n : Nat × Nat) => Tree.all (fun (r : Int) => r = cmp3 (Prod.fst n) (Prod.snd n)) fun (n : Int) => Tree.ite (decide (n < (0 : Int))) (Tree.leaf (Leaf2.ret [AV.nils, AV.sl (List.length (canon x)) (1 : Nat) (natG IntKind.u32 (canon x))] [])) (Tree.ite (decide ((↑(List.length (canon y)) : Int) = (1 : Int))) (Tree.side ((0 : Int) ≤ (0 : Int) ∧ (0 : Int) < (↑(List.length (canon y)) : Int)) (Tree.ex (fun (x_1 : Nat × Nat) => eqL [AV.sl (List.length (canon x)) (1 : Nat) (natG IntKind.u32 (canon x)), AV.int IntKind.u32 (↑(List.getD (canon y) (0 : Nat) (0 : Nat)) : Int)] [AV.sl (List.length (canon (Prod.fst x_1))) (1 : Nat) (natG IntKind.u32 (canon (Prod.fst x_1))), AV.int IntKind.u32 (↑(Prod.snd x_1) : Int)] ∧ fits (Prod.fst x_1) ∧ (0 : Nat) < Prod.snd x_1 ∧ Prod.snd x_1 < (1000000000 : Nat)) fun (n : Nat × Nat) => Tree.all (fun (r : Nat × Nat) => r = (Prod.fst n / Prod.snd n, Prod.fst n % Prod.snd n)) fun (n : Nat × Nat) => Tree.ex (fun (u : List Nat) => List.length u = (1 : Nat) ∧ (1 : Nat) ≤ (1 : Nat) ∧ (1 : Nat) < (4611686018427387904 : Nat) ∧ eqG (1 : Nat) (1 : Nat) (listG (1 : Nat) [AV.int IntKind.u32 (↑(Prod.snd n) : Int)]) (natG IntKind.u32 u) ∧ dig (List.take (1 : Nat) (List.drop (0 : Nat) u))) fun (n_1 : List Nat) => Tree.all (fun (x : Nat) => x = val (List.take (1 : Nat) (List.drop (0 : Nat) n_1))) fun (n_2 : Nat) => Tree.leaf (Leaf2.ret [AV.sl (List.length (canon (Prod.fst n))) (1 : Nat) (natG IntKind.u32 (canon (Prod.fst n))), AV.osl (0 : Nat) (1 : Nat) (0 : Nat) (List.length (canon n_2))] [Blk.arr (1 : Nat) (1 : Nat) (listG (1 : Nat) [AV.int IntKind.u32 (↑(Prod.snd n) : Int)])]))) (Tree.side (inR IntKind.i64 ((↑(List.length (canon y)) : Int) - (1 : Int))) (Tree.side ((0 : Int) ≤ (↑(List.length (canon y)) : Int) - (1 : Int) ∧ (↑(List.length (canon y)) : Int) - (1 : Int) < (↑(List.length (canon y)) : Int)) (Tree.side (inR IntKind.u64 (↑(List.getD (canon y) (Int.toNat ((↑(List.length (canon y)) : Int) - (1 : Int))) (0 : Nat)) : Int)) (Tree.side (inR IntKind.u64 ((↑(List.getD (canon y) (Int.toNat ((↑(List.length (canon y)) : Int) - (1 : Int))) (0 : Nat)) : Int) + (1 : Int))) (Tree.side ((↑(List.getD (canon y) (Int.toNat ((↑(List.length (canon y)) : Int) - (1 : Int))) (0 : Nat)) : Int) + (1 : Int) ≠ (0 : Int) ∧ inR IntKind.u64 (Int.tdiv (1000000000 : Int) ((↑(List.getD (canon y) (Int.toNat ((↑(List.length (canon y)) : Int) - (1 : Int))) (0 : Nat)) : Int) + (1 : Int)))) (Tree.side (inR IntKind.u32 (Int.tdiv (1000000000 : Int) ((↑(List.getD (canon y) (Int.toNat ((↑(List.length (canon y)) : Int) - (1 : Int))) (0 : Nat)) : Int) + (1 : Int)))) (Tree.ex (fun (x_1 : Nat × Nat) => eqL [AV.sl (List.length (canon x)) (1 : Nat) (natG IntKind.u32 (canon x)), AV.sl (1 : Nat) (1 : Nat) (viewG (listG (1 : Nat) [AV.int IntKind.u32 (Int.tdiv (1000000000 : Int) ((↑(List.getD (canon y) (Int.toNat ((↑(List.length (canon y)) : Int) - (1 : Int))) (0 : Nat)) : Int) + (1 : Int)))]) (0 : Nat))] [AV.sl (List.length (canon (Prod.fst x_1))) (1 : Nat) (natG IntKind.u32 (canon (Prod.fst x_1))), AV.sl (List.length (canon (Prod.snd x_1))) (1 : Nat) (natG IntKind.u32 (canon (Prod.snd x_1)))] ∧ fits (Prod.fst x_1) ∧ fits (Prod.snd x_1)) fun (n : Nat × Nat) => Tree.all (fun (p : Nat) => p = Prod.fst n * Prod.snd n) fun (n_1 : Nat) => Tree.leaf (Leaf2.loop (Prod.fst (lps K46 (0 : Nat))) (Prod.snd (lps K46 (0 : Nat))) [((0 : Nat), AV.sl (List.length (canon x)) (1 : Nat) (natG IntKind.u32 (canon x))), ((1 : Nat), AV.sl (List.length (canon y)) (1 : Nat) (natG IntKind.u32 (canon y))), ((4 : Nat), AV.nils), ((8 : Nat), AV.int IntKind.u32 (Int.tdiv (1000000000 : Int) ((↑(List.getD (canon y) (Int.toNat ((↑(List.length (canon y)) : Int) - (1 : Int))) (0 : Nat)) : Int) + (1 : Int)))), ((9 : Nat), AV.int IntKind.i64 (↑(List.length (canon y)) : Int)), ((10 : Nat), AV.osl (1 : Nat) (1 : Nat) (0 : Nat) (List.length (canon n_1))), ((11 : Nat), AV.undef), ((12 : Nat), AV.undef), ((13 : Nat), AV.undef), ((15 : Nat), AV.undef), ((151 : Nat), AV.undef), ((152 : Nat), AV.undef)] [Blk.arr (1 : Nat) (1 : Nat) (listG (1 : Nat) [AV.int IntKind.u32 (Int.tdiv (1000000000 : Int) ((↑(List.getD (canon y) (Int.toNat ((↑(List.length (canon y)) : Int) - (1 : Int))) (0 : Nat)) : Int) + (1 : Int)))]), Blk.arr (List.length (canon (Prod.fst n)) + List.length (canon (Prod.snd n))) (1 : Nat) (natG IntKind.u32 (padN (List.length (canon (Prod.fst n)) + List.length (canon (Prod.snd n))) n_1))])))))))))) (by kernel_rfl) ?_
  simp only [Tree.holds, Leafs2, inR, lo, hi]
  refine ⟨(x, y), ⟨by simp [eqG_refl], by simp only [fits]; omega, by simp only [fits]; omega⟩, ⟨_, rfl⟩, ?_⟩
  rintro c rfl
  have hyl : 0 < (canon y).length := le_canon_length (n := 0) (by simp; omega)
  refine ⟨fun hlt => ?_, fun hge => ⟨fun h1 => ⟨by omega, fun _ => ?_⟩, fun hn => ?_⟩⟩
  · have hxy : x < y := by
      simp only [cmp3, decide_eq_true_eq] at hlt
      rcases Nat.lt_or_ge x y with h | h
      · exact h
      · rw [if_neg (by omega)] at hlt; split at hlt <;> omega
    rw [Nat.div_eq_of_lt hxy, Nat.mod_eq_of_lt hxy] at hq
    refine RetR.out0 hq (fun h => by cases h) ?_
    simp [resV, exp2, exp1, exp0, ren0, eqA2, eqL1, magS, natS, canon_zero, eqG_refl]
  · have h1 : (canon y).length = 1 := by simp at h1; omega
    have hyd : y = (canon y).getD 0 0 := by
      have := val_canon y
      obtain ⟨a, ha⟩ := List.length_eq_one_iff.1 h1
      rw [ha] at this ⊢
      simp [val] at this ⊢; omega
    have hyB : y < B := hyd ▸ getD_lt (dig_canon y) 0
    rw [← hyd]
    refine ⟨(x, y), ⟨by simp [eqG_refl], by simp only [fits]; omega, hy0, hyB⟩, ⟨_, rfl⟩, ?_⟩
    rintro r rfl
    have hm := Nat.mod_lt x hy0
    have hmB : x % y < B := by omega
    refine ⟨[x % y], ⟨rfl, by omega, by omega, eqG_one _ _, by simpa [dig] using hmB⟩, ⟨_, rfl⟩, ?_⟩
    intro X hX
    have hX : X = x % y := by simpa [val] using hX
    subst hX
    refine RetR.out0 hq (fun h => by cases h) ?_
    simp only [resV, exp2, List.map_cons, List.map_nil, exp1, exp0, ren0, posIn, frz1, seqOf, List.getElem?_cons_zero, if_true, eqA2, eqL1, eqA, eqA0, magS, natS, true_and, and_true]
    exact ⟨eqG_refl _ _ _, eqG_one_mag hmB⟩
  · have hn : 2 ≤ (canon y).length := by simp at hn; omega
    obtain ⟨m, hm⟩ : ∃ m, (canon y).length = m + 2 := ⟨(canon y).length - 2, by omega⟩
    have e1 : ((((canon y).length : Nat) : Int) - 1).toNat = m + 1 := by omega
    have hty := getD_lt (dig_canon y) (m + 1)
    have htop : (canon y).getD (m + 1) 0 ≠ 0 := by
      have := tlen_last (canon y) (by rw [tlen_canon]; omega)
      rw [tlen_canon, hm] at this
      exact this
    have hyv : ∃ r, r < B ^ (m + 1) ∧ y = r + B ^ (m + 1) * (canon y).getD (m + 1) 0 := by
      refine ⟨val ((canon y).take (m + 1)), ?_, ?_⟩
      · have := val_lt (dig_take (dig_canon y) (m + 1))
        rwa [List.length_take, Nat.min_eq_left (by omega)] at this
      · have := val_take_succ (canon y) (m + 1)
        rwa [List.take_of_length_le (by omega), val_canon] at this
    rw [e1]
    generalize (canon y).getD (m + 1) 0 = t at hty htop hyv ⊢
    have e2 : Int.tdiv 1000000000 ((t : Int) + 1) = ((B / (t + 1) : Nat) : Int) := by
      have : ((t : Int) + 1) = ((t + 1 : Nat) : Int) := by omega
      rw [this]; rfl
    rw [e2]
    obtain ⟨s, hs⟩ : ∃ s, B / (t + 1) = s := ⟨_, rfl⟩
    obtain ⟨hs0, hs1, hs2⟩ := scale_ok (by omega) hs.symm hty
    rw [hs]
    have hsB : s < B := by
      have : s * 2 ≤ s * (t + 1) := Nat.mul_le_mul_left _ (by omega)
      omega
    obtain ⟨r0, hr0, hyr⟩ := hyv
    obtain ⟨hV1, hV2⟩ := scaled hr0 hyr hs0 hs1 hs2
    refine ⟨by omega, fun _ => ⟨by omega, fun _ => ⟨by omega, fun _ => ⟨by omega, fun _ => ⟨by omega, fun _ => ⟨by omega, fun _ => ?_⟩⟩⟩⟩⟩⟩
    have hsl := canon_len_one hs0 hsB
    refine ⟨(x, s), ⟨?_, by simp only [fits]; omega, by simp only [fits]; omega⟩, ⟨_, rfl⟩, ?_⟩
    · simp only [eqL, eqA, eqA0, true_and, and_true]
      refine ⟨eqG_refl _ _ _, hsl.symm, ?_⟩
      have := eqG_one_mag hsB
      rwa [hsl] at this
    intro U hU
    simp only at hU ⊢
    rw [hsl]
    have hxs : U < B ^ ((canon x).length + 1) := by
      have h1 := val_lt (dig_canon x)
      rw [val_canon] at h1
      rw [hU, Nat.pow_succ]
      exact Nat.mul_lt_mul'' h1 hsB
    have hUl := canon_length_le hxs
    have hcan : (canon x).length + 1 ≥ m + 2 := by
      rcases Nat.lt_or_ge (canon x).length (m + 1) with h | h
      · exfalso
        have := canon_len_mono (x := x) (y := y) (by omega)
        simp [cmp3, this] at hge
      · omega
    have hylx : (canon y).length ≤ (canon x).length := by
      rcases Nat.lt_or_ge (canon x).length (canon y).length with h | h
      · exfalso
        have := canon_len_mono h
        simp [cmp3, this] at hge
      · exact h
    refine SafeK.loop (ι := IG x U) (fun i => SG x y s i.k) (fun i => [.dead, .arr i.o.length 1 (natG .u32 i.o)]) (fun i => (canon x).length + 1 - i.k)
      ⟨(canon U).length, padN ((canon x).length + 1) U, by rw [pad_len hUl]; exact hUl, by rw [pad_len hUl]; omega, dig_take (pad_dig _ _) _, by simp [padN, val_canon]⟩ 0 ?_ ?_ (by kernel_rfl)
    · exact ⟨by simp [SG, magS, natS, eqG_refl], by simp [eqG_refl, pad_len hUl], by kernel_rfl, Nat.zero_le _⟩
    · rintro ⟨k, o, hko, hol, hdo, hvo⟩
      refine SafeK.run (k := inside K46 0) hmix G2_ok [0, 1, 4, 8, 9, 10, 11, 12, 13, 15, 151, 152] 400 (T := Tree.ite (decide ((↑k : Int) ≤ (↑(List.length (canon x)) : Int))) (Tree.side ((0 : Nat) = (0 : Nat) ∧ k ≤ List.length o ∧ (k + (1 : Nat)) * (4 : Nat) ≤ (140737488355328 : Nat)) (Tree.leaf (Leaf2.back (0 : Nat) [((0 : Nat), AV.sl (List.length (canon x)) (1 : Nat) (natG IntKind.u32 (canon x))), ((1 : Nat), AV.sl (List.length (canon y)) (1 : Nat) (natG IntKind.u32 (canon y))), ((4 : Nat), AV.nils), ((8 : Nat), AV.int IntKind.u32 (↑s : Int)), ((9 : Nat), AV.int IntKind.i64 (↑(List.length (canon y)) : Int)), ((10 : Nat), AV.osl (1 : Nat) (1 : Nat) (0 : Nat) (k + (1 : Nat))), ((11 : Nat), AV.undef), ((12 : Nat), AV.undef), ((13 : Nat), AV.undef), ((15 : Nat), AV.undef), ((151 : Nat), AV.undef), ((152 : Nat), AV.undef)] [Blk.dead, Blk.arr (k + (1 : Nat)) (1 : Nat) (appG k (natG IntKind.u32 o) (viewG (listG (1 : Nat) [AV.int IntKind.u32 (0 : Int)]) (0 : Nat))), Blk.arr (1 : Nat) (1 : Nat) (listG (1 : Nat) [AV.int IntKind.u32 (0 : Int)])]))) (Tree.ex (fun (x : Nat × Nat) => eqL [AV.sl (List.length (canon y)) (1 : Nat) (natG IntKind.u32 (canon y)), AV.sl (1 : Nat) (1 : Nat) (viewG (listG (1 : Nat) [AV.int IntKind.u32 (↑s : Int)]) (0 : Nat))] [AV.sl (List.length (canon (Prod.fst x))) (1 : Nat) (natG IntKind.u32 (canon (Prod.fst x))), AV.sl (List.length (canon (Prod.snd x))) (1 : Nat) (natG IntKind.u32 (canon (Prod.snd x)))] ∧ fits (Prod.fst x) ∧ fits (Prod.snd x)) fun (n : Nat × Nat) => Tree.all (fun (p : Nat) => p = Prod.fst n * Prod.snd n) fun (n_1 : Nat) => Tree.side (inR IntKind.i64 ((↑k : Int) - (↑(List.length (canon y)) : Int))) (Tree.side ((0 : Int) ≤ (↑k : Int) - (↑(List.length (canon y)) : Int) ∧ (↑k : Int) - (↑(List.length (canon y)) : Int) ≤ (↑k : Int) - (↑(List.length (canon y)) : Int) ∧ inR IntKind.i64 ((↑k : Int) - (↑(List.length (canon y)) : Int)) ∧ Int.toNat ((↑k : Int) - (↑(List.length (canon y)) : Int)) * (4 : Nat) ≤ (140737488355328 : Nat)) (Tree.side (inR IntKind.i64 ((↑k : Int) - (↑(List.length (canon y)) : Int))) (Tree.side (inR IntKind.i64 ((↑k : Int) - (↑(List.length (canon y)) : Int) - (1 : Int))) (Tree.leaf (Leaf2.loop (Prod.fst (lps (inside K46 (0 : Nat)) (0 : Nat))) (Prod.snd (lps (inside K46 (0 : Nat)) (0 : Nat))) [((0 : Nat), AV.sl (List.length (canon x)) (1 : Nat) (natG IntKind.u32 (canon x))), ((1 : Nat), AV.sl (List.length (canon y)) (1 : Nat) (natG IntKind.u32 (canon y))), ((4 : Nat), AV.osl (4 : Nat) (1 : Nat) (0 : Nat) (Int.toNat ((↑k : Int) - (↑(List.length (canon y)) : Int)))), ((8 : Nat), AV.int IntKind.u32 (↑s : Int)), ((9 : Nat), AV.int IntKind.i64 (↑(List.length (canon y)) : Int)), ((10 : Nat), AV.osl (1 : Nat) (1 : Nat) (0 : Nat) k), ((11 : Nat), AV.osl (3 : Nat) (1 : Nat) (0 : Nat) (List.length (canon n_1))), ((12 : Nat), AV.int IntKind.i64 ((↑k : Int) - (↑(List.length (canon y)) : Int) - (1 : Int))), ((13 : Nat), AV.undef), ((15 : Nat), AV.undef), ((151 : Nat), AV.undef), ((152 : Nat), AV.undef)] [Blk.dead, Blk.arr (List.length o) (1 : Nat) (natG IntKind.u32 o), Blk.arr (1 : Nat) (1 : Nat) (listG (1 : Nat) [AV.int IntKind.u32 (↑s : Int)]), Blk.arr (List.length (canon (Prod.fst n)) + List.length (canon (Prod.snd n))) (1 : Nat) (natG IntKind.u32 (padN (List.length (canon (Prod.fst n)) + List.length (canon (Prod.snd n))) n_1)), Blk.arr (Int.toNat ((↑k : Int) - (↑(List.length (canon y)) : Int))) (1 : Nat) (sameG [AV.int IntKind.u32 (0 : Int)])]))))))) (by kernel_rfl) ?_
      simp only [Tree.holds, Leafs2, inR, lo, hi]
      refine ⟨fun hk => ?_, fun hk => ?_⟩
      · have hk : k ≤ (canon x).length := by simp at hk; omega
        refine ⟨⟨trivial, hko, by omega⟩, fun _ => ?_⟩
        rw [if_pos trivial]
        have hkl : (o.take k).length = k := by rw [List.length_take]; omega
        refine ⟨⟨k + 1, o.take k ++ [0], by simp [hkl], by simp [hkl]; omega, ?_, ?_⟩, by show _ - (k + 1) < _ - k; omega, by simp [SG, magS, natS, eqG_refl], ?_, by kernel_rfl, Nat.zero_le _⟩
        · rw [List.take_of_length_le (by simp [hkl])]; exact dig_append.2 ⟨hdo, by simp [dig]⟩
        · rw [List.take_of_length_le (by simp [hkl]), val_append]; simp [val, hvo]
        · refine ⟨trivial, ⟨by simp [hkl], rfl, ?_⟩, trivial⟩
          intro j o' hj ho'
          have : o' = 0 := by omega
          subst this
          simp only [appG, viewG, listG, natG]
          by_cases h : j < k
          · rw [if_pos h]
            simp only [List.getD]
            rw [List.getElem?_append_left (by omega), List.getElem?_take, if_pos h]
          · have : j = k := by omega
            subst this
            rw [if_neg h]
            simp [List.getElem?_append_right, hkl]
      · have hk : k = (canon x).length + 1 := by simp at hk; omega
        have hok : o.length = (canon x).length + 1 := by omega
        rw [List.take_of_length_le (by omega)] at hdo hvo
        refine ⟨(y, s), ⟨?_, by simp only [fits]; omega, by simp only [fits]; omega⟩, ⟨_, rfl⟩, ?_⟩
        · simp only [eqL, eqA, eqA0, true_and, and_true]
          refine ⟨eqG_refl _ _ _, hsl.symm, ?_⟩
          have := eqG_one_mag hsB
          rwa [hsl] at this
        intro V hV
        simp only at hV ⊢
        rw [hsl]
        rw [← hV] at hV1 hV2
        have hVl : (canon V).length = m + 2 := by
          have h1 := canon_length_le hV1
          have h2 : B ^ (m + 1) ≤ V := by
            have : B ^ (m + 1 + 1) = B ^ (m + 1) * B := Nat.pow_succ ..
            rw [this] at hV2
            have : B ^ (m + 1) * 2 ≤ B ^ (m + 1) * B := Nat.mul_le_mul_left _ (by decide)
            omega
          have := le_canon_length h2
          omega
        have hV0 : 0 < V := by
          rcases Nat.eq_zero_or_pos V with h | h
          · rw [h, canon_zero] at hVl; simp at hVl
          · exact h
        have eq0 : ((k : Int) - ((canon y).length : Int)).toNat = k - (canon y).length := by omega
        rw [eq0]
        refine ⟨by omega, fun _ => ⟨by omega, fun _ => ⟨by omega, fun _ => ⟨by omega, fun _ => ?_⟩⟩⟩⟩
        have hqe : U / V = x / y ∧ U % V = x % y * s := by
          rw [hU, hV]
          exact ⟨Nat.mul_div_mul_right _ _ hs0, Nat.mul_mod_mul_right _ _ _⟩
        refine SafeK.loop (ι := ID x y V U) (fun i => SD y s V i.u.length i.q.length i.j) (fun i => HD y V i.u i.q) (fun i => i.j)
          ⟨o, List.replicate (k - (canon y).length) 0, k - (canon y).length, hok, by simp; omega, by simp, hdo, dig_replicate _, by simp [val, hvo], ?_⟩ 0 ?_ ?_ (by kernel_rfl)
        · rw [hvo]
          have h1 : U * 2 ≤ x * B := by
            rw [hU, Nat.mul_assoc]
            refine Nat.mul_le_mul_left _ ?_
            have : s * 2 ≤ s * (t + 1) := Nat.mul_le_mul_left _ (by omega)
            omega
          have h2 : x < B ^ (canon x).length := by have := val_lt (dig_canon x); rwa [val_canon] at this
          have h3 : B ^ (m + 1 + 1) * B ^ (k - (canon y).length) ≤ 2 * V * B ^ (k - (canon y).length) := Nat.mul_le_mul_right _ hV2
          rw [← Nat.pow_add, show m + 1 + 1 + (k - (canon y).length) = (canon x).length + 1 by omega, Nat.pow_succ] at h3
          have h4 : x * B < B ^ (canon x).length * B := Nat.mul_lt_mul_of_pos_right h2 (by decide)
          rw [Nat.mul_assoc] at h3
          omega
        · refine ⟨?_, ?_, by kernel_rfl, Nat.zero_le _⟩
          · simp [SD, hVl, hm, hok, hk, eqG_refl]; omega
          · simp [HD, eqG_refl, natS_zero]
        · rintro ⟨u, q, j, hul, hql, hjq, hdu, hdq, heq, hlt⟩
          rcases j with _ | i
          · refine SafeK.run (k := inside (inside K46 0) 0) hmix G2_ok [0, 1, 4, 8, 9, 10, 11, 12, 13, 15, 151, 152] 400 (T := Tree.ite false (Tree.side (inR IntKind.i64 ((-1 : Int) + (↑(List.length (canon y)) : Int))) (Tree.side ((0 : Int) ≤ (-1 : Int) + (↑(List.length (canon y)) : Int) ∧ (-1 : Int) + (↑(List.length (canon y)) : Int) < (↑(List.length u) : Int)) (Tree.side (inR IntKind.u64 (↑(List.getD u ((0 : Nat) + Int.toNat ((-1 : Int) + (↑(List.length (canon y)) : Int))) (0 : Nat)) : Int)) (Tree.side (inR IntKind.i64 ((-1 : Int) + (↑(List.length (canon y)) : Int))) (Tree.side (inR IntKind.i64 ((-1 : Int) + (↑(List.length (canon y)) : Int) - (1 : Int))) (Tree.side ((0 : Int) ≤ (-1 : Int) + (↑(List.length (canon y)) : Int) - (1 : Int) ∧ (-1 : Int) + (↑(List.length (canon y)) : Int) - (1 : Int) < (↑(List.length u) : Int)) (Tree.side (inR IntKind.u64 (↑(List.getD u ((0 : Nat) + Int.toNat ((-1 : Int) + (↑(List.length (canon y)) : Int) - (1 : Int))) (0 : Nat)) : Int)) (Tree.side (inR IntKind.i64 ((-1 : Int) + (↑(List.length (canon y)) : Int))) (Tree.side (inR IntKind.i64 ((-1 : Int) + (↑(List.length (canon y)) : Int) - (2 : Int))) (Tree.side ((0 : Int) ≤ (-1 : Int) + (↑(List.length (canon y)) : Int) - (2 : Int) ∧ (-1 : Int) + (↑(List.length (canon y)) : Int) - (2 : Int) < (↑(List.length u) : Int)) (Tree.side (inR IntKind.u64 (↑(List.getD u ((0 : Nat) + Int.toNat ((-1 : Int) + (↑(List.length (canon y)) : Int) - (2 : Int))) (0 : Nat)) : Int)) (Tree.side (inR IntKind.i64 ((↑(List.length (canon y)) : Int) - (1 : Int))) (Tree.side ((0 : Int) ≤ (↑(List.length (canon y)) : Int) - (1 : Int) ∧ (↑(List.length (canon y)) : Int) - (1 : Int) < (↑(List.length (canon V)) : Int)) (Tree.side (inR IntKind.u64 (↑(List.getD (padN (List.length (canon y) + (1 : Nat)) V) ((0 : Nat) + Int.toNat ((↑(List.length (canon y)) : Int) - (1 : Int))) (0 : Nat)) : Int)) (Tree.side (inR IntKind.i64 ((↑(List.length (canon y)) : Int) - (2 : Int))) (Tree.side ((0 : Int) ≤ (↑(List.length (canon y)) : Int) - (2 : Int) ∧ (↑(List.length (canon y)) : Int) - (2 : Int) < (↑(List.length (canon V)) : Int)) (Tree.side (inR IntKind.u64 (↑(List.getD (padN (List.length (canon y) + (1 : Nat)) V) ((0 : Nat) + Int.toNat ((↑(List.length (canon y)) : Int) - (2 : Int))) (0 : Nat)) : Int)) (Tree.ex (fun (x : D5) => eqL [AV.int IntKind.u64 (↑(List.getD u ((0 : Nat) + Int.toNat ((-1 : Int) + (↑(List.length (canon y)) : Int))) (0 : Nat)) : Int), AV.int IntKind.u64 (↑(List.getD u ((0 : Nat) + Int.toNat ((-1 : Int) + (↑(List.length (canon y)) : Int) - (1 : Int))) (0 : Nat)) : Int), AV.int IntKind.u64 (↑(List.getD u ((0 : Nat) + Int.toNat ((-1 : Int) + (↑(List.length (canon y)) : Int) - (2 : Int))) (0 : Nat)) : Int), AV.int IntKind.u64 (↑(List.getD (padN (List.length (canon y) + (1 : Nat)) V) ((0 : Nat) + Int.toNat ((↑(List.length (canon y)) : Int) - (1 : Int))) (0 : Nat)) : Int), AV.int IntKind.u64 (↑(List.getD (padN (List.length (canon y) + (1 : Nat)) V) ((0 : Nat) + Int.toNat ((↑(List.length (canon y)) : Int) - (2 : Int))) (0 : Nat)) : Int)] [AV.int IntKind.u64 (↑(D5.t x) : Int), AV.int IntKind.u64 (↑(D5.u x) : Int), AV.int IntKind.u64 (↑(D5.v x) : Int), AV.int IntKind.u64 (↑(D5.y x) : Int), AV.int IntKind.u64 (↑(D5.z x) : Int)] ∧ D5.t x ≤ D5.y x ∧ D5.u x < (1000000000 : Nat) ∧ D5.v x < (1000000000 : Nat) ∧ D5.y x < (1000000000 : Nat) ∧ D5.z x < (1000000000 : Nat) ∧ (1000000000 : Nat) ≤ (2 : Nat) * D5.y x) fun (n : D5) => Tree.all (fun (n_1 : Nat) => n_1 = guessF (D5.v n) (D5.y n) (D5.z n) (2 : Nat) ((D5.t n * (1000000000 : Nat) + D5.u n) / D5.y n) ((D5.t n * (1000000000 : Nat) + D5.u n) % D5.y n)) fun (n : Nat) => Tree.side (inR IntKind.u32 (↑n : Int)) (Tree.ex (fun (u : List Nat) => List.length u = (1 : Nat) ∧ (1 : Nat) ≤ (1 : Nat) ∧ (1 : Nat) < (4611686018427387904 : Nat) ∧ eqG (1 : Nat) (1 : Nat) (listG (1 : Nat) [AV.int IntKind.u32 (↑n : Int)]) (natG IntKind.u32 u) ∧ dig (List.take (1 : Nat) (List.drop (0 : Nat) u))) fun (n_1 : List Nat) => Tree.all (fun (x : Nat) => x = val (List.take (1 : Nat) (List.drop (0 : Nat) n_1))) fun (n_2 : Nat) => Tree.ex (fun (x : Nat × Nat) => eqL [AV.sl (List.length (canon V)) (1 : Nat) (viewG (natG IntKind.u32 (padN (List.length (canon y) + (1 : Nat)) V)) (0 : Nat)), AV.sl (List.length (canon n_2)) (1 : Nat) (viewG (listG (1 : Nat) [AV.int IntKind.u32 (↑n : Int)]) (0 : Nat))] [AV.sl (List.length (canon (Prod.fst x))) (1 : Nat) (natG IntKind.u32 (canon (Prod.fst x))), AV.sl (List.length (canon (Prod.snd x))) (1 : Nat) (natG IntKind.u32 (canon (Prod.snd x)))] ∧ fits (Prod.fst x) ∧ fits (Prod.snd x)) fun (n_3 : Nat × Nat) => Tree.all (fun (p : Nat) => p = Prod.fst n_3 * Prod.snd n_3) fun (n_4 : Nat) => Tree.side (inR IntKind.i64 ((-1 : Int) + (↑(List.length (canon y)) : Int))) (Tree.side (inR IntKind.i64 ((-1 : Int) + (↑(List.length (canon y)) : Int) + (1 : Int))) (Tree.side ((0 : Int) ≤ (-1 : Int) ∧ (-1 : Int) ≤ (-1 : Int) + (↑(List.length (canon y)) : Int) + (1 : Int) ∧ (-1 : Int) + (↑(List.length (canon y)) : Int) + (1 : Int) ≤ (↑(List.length u) : Int)) (Tree.ex (fun (u_1 : List Nat) => List.length u_1 = List.length u ∧ (0 : Nat) + (Int.toNat ((-1 : Int) + (↑(List.length (canon y)) : Int) + (1 : Int)) - (0 : Nat)) ≤ List.length u ∧ Int.toNat ((-1 : Int) + (↑(List.length (canon y)) : Int) + (1 : Int)) - (0 : Nat) < (4611686018427387904 : Nat) ∧ eqG (List.length u) (1 : Nat) (natG IntKind.u32 u) (natG IntKind.u32 u_1) ∧ dig (List.take (Int.toNat ((-1 : Int) + (↑(List.length (canon y)) : Int) + (1 : Int)) - (0 : Nat)) (List.drop (0 : Nat) u_1))) fun (n_5 : List Nat) => Tree.all (fun (x : Nat) => x = val (List.take (Int.toNat ((-1 : Int) + (↑(List.length (canon y)) : Int) + (1 : Int)) - (0 : Nat)) (List.drop (0 : Nat) n_5))) fun (n_6 : Nat) => Tree.ex (fun (x : Nat × Nat) => eqL [AV.sl (List.length (canon n_6)) (1 : Nat) (viewG (natG IntKind.u32 u) (0 : Nat)), AV.sl (List.length (canon n_4)) (1 : Nat) (viewG (natG IntKind.u32 (padN (List.length (canon (Prod.fst n_3)) + List.length (canon (Prod.snd n_3))) n_4)) (0 : Nat))] [AV.sl (List.length (canon (Prod.fst x))) (1 : Nat) (natG IntKind.u32 (canon (Prod.fst x))), AV.sl (List.length (canon (Prod.snd x))) (1 : Nat) (natG IntKind.u32 (canon (Prod.snd x)))] ∧ fits (Prod.fst x) ∧ fits (Prod.snd x)) fun (n_7 : Nat × Nat) => Tree.all (fun (r : Int) => r = cmp3 (Prod.fst n_7) (Prod.snd n_7)) fun (n_8 : Int) => Tree.ite (decide (n_8 < (0 : Int))) (Tree.side (inR IntKind.u64 ((↑n : Int) - (1 : Int))) (Tree.side (inR IntKind.u32 ((↑n : Int) - (1 : Int))) (Tree.ex (fun (u : List Nat) => List.length u = (1 : Nat) ∧ (1 : Nat) ≤ (1 : Nat) ∧ (1 : Nat) < (4611686018427387904 : Nat) ∧ eqG (1 : Nat) (1 : Nat) (listG (1 : Nat) [AV.int IntKind.u32 ((↑n : Int) - (1 : Int))]) (natG IntKind.u32 u) ∧ dig (List.take (1 : Nat) (List.drop (0 : Nat) u))) fun (n_9 : List Nat) => Tree.all (fun (x : Nat) => x = val (List.take (1 : Nat) (List.drop (0 : Nat) n_9))) fun (n_10 : Nat) => Tree.ex (fun (x : Nat × Nat) => eqL [AV.sl (List.length (canon V)) (1 : Nat) (viewG (natG IntKind.u32 (padN (List.length (canon y) + (1 : Nat)) V)) (0 : Nat)), AV.sl (List.length (canon n_10)) (1 : Nat) (viewG (listG (1 : Nat) [AV.int IntKind.u32 ((↑n : Int) - (1 : Int))]) (0 : Nat))] [AV.sl (List.length (canon (Prod.fst x))) (1 : Nat) (natG IntKind.u32 (canon (Prod.fst x))), AV.sl (List.length (canon (Prod.snd x))) (1 : Nat) (natG IntKind.u32 (canon (Prod.snd x)))] ∧ fits (Prod.fst x) ∧ fits (Prod.snd x)) fun (n_11 : Nat × Nat) => Tree.all (fun (p : Nat) => p = Prod.fst n_11 * Prod.snd n_11) fun (n_12 : Nat) => Tree.side (inR IntKind.i64 ((-1 : Int) + (↑(List.length (canon y)) : Int))) (Tree.side (inR IntKind.i64 ((-1 : Int) + (↑(List.length (canon y)) : Int) + (1 : Int))) (Tree.side ((0 : Int) ≤ (-1 : Int) ∧ (-1 : Int) ≤ (-1 : Int) + (↑(List.length (canon y)) : Int) + (1 : Int) ∧ (-1 : Int) + (↑(List.length (canon y)) : Int) + (1 : Int) ≤ (↑(List.length u) : Int)) (Tree.ex (fun (u_1 : List Nat) => List.length u_1 = List.length u ∧ (0 : Nat) + (Int.toNat ((-1 : Int) + (↑(List.length (canon y)) : Int) + (1 : Int)) - (0 : Nat)) ≤ List.length u ∧ Int.toNat ((-1 : Int) + (↑(List.length (canon y)) : Int) + (1 : Int)) - (0 : Nat) < (4611686018427387904 : Nat) ∧ eqG (List.length u) (1 : Nat) (natG IntKind.u32 u) (natG IntKind.u32 u_1) ∧ dig (List.take (Int.toNat ((-1 : Int) + (↑(List.length (canon y)) : Int) + (1 : Int)) - (0 : Nat)) (List.drop (0 : Nat) u_1))) fun (n_13 : List Nat) => Tree.all (fun (x : Nat) => x = val (List.take (Int.toNat ((-1 : Int) + (↑(List.length (canon y)) : Int) + (1 : Int)) - (0 : Nat)) (List.drop (0 : Nat) n_13))) fun (n_14 : Nat) => Tree.ex (fun (x : Nat × Nat) => eqL [AV.sl (List.length (canon n_14)) (1 : Nat) (viewG (natG IntKind.u32 u) (0 : Nat)), AV.sl (List.length (canon n_12)) (1 : Nat) (viewG (natG IntKind.u32 (padN (List.length (canon (Prod.fst n_11)) + List.length (canon (Prod.snd n_11))) n_12)) (0 : Nat))] [AV.sl (List.length (canon (Prod.fst x))) (1 : Nat) (natG IntKind.u32 (canon (Prod.fst x))), AV.sl (List.length (canon (Prod.snd x))) (1 : Nat) (natG IntKind.u32 (canon (Prod.snd x)))] ∧ fits (Prod.fst x) ∧ Prod.snd x ≤ Prod.fst x) fun (n_15 : Nat × Nat) => Tree.all (fun (d : Nat) => d = Prod.fst n_15 - Prod.snd n_15) fun (n_16 : Nat) => Tree.side (inR IntKind.i64 ((↑(List.length (canon y)) : Int) + (1 : Int))) (Tree.leaf (Leaf2.loop (Prod.fst (lps (inside (inside K46 (0 : Nat)) (0 : Nat)) (0 : Nat))) (Prod.snd (lps (inside (inside K46 (0 : Nat)) (0 : Nat)) (0 : Nat))) [((0 : Nat), AV.undef), ((1 : Nat), AV.undef), ((4 : Nat), AV.osl (4 : Nat) (1 : Nat) (0 : Nat) (List.length q)), ((8 : Nat), AV.int IntKind.u32 (↑s : Int)), ((9 : Nat), AV.int IntKind.i64 (↑(List.length (canon y)) : Int)), ((10 : Nat), AV.osl (1 : Nat) (1 : Nat) (0 : Nat) (List.length u)), ((11 : Nat), AV.osl (3 : Nat) (1 : Nat) (0 : Nat) (List.length (canon V))), ((12 : Nat), AV.int IntKind.i64 (-1 : Int)), ((13 : Nat), AV.int IntKind.u64 ((↑n : Int) - (1 : Int))), ((15 : Nat), AV.sl (List.length (canon n_16)) (1 : Nat) (natG IntKind.u32 (canon n_16))), ((151 : Nat), AV.int IntKind.i64 ((↑(List.length (canon y)) : Int) + (1 : Int))), ((152 : Nat), AV.int IntKind.i64 (0 : Int))] [Blk.dead, Blk.arr (List.length u) (1 : Nat) (natG IntKind.u32 u), Blk.dead, Blk.arr (List.length (canon y) + (1 : Nat)) (1 : Nat) (natG IntKind.u32 (padN (List.length (canon y) + (1 : Nat)) V)), Blk.arr (List.length q) (1 : Nat) (natG IntKind.u32 q), Blk.arr (1 : Nat) (1 : Nat) (listG (1 : Nat) [AV.int IntKind.u32 (↑n : Int)]), Blk.arr (List.length (canon (Prod.fst n_3)) + List.length (canon (Prod.snd n_3))) (1 : Nat) (natG IntKind.u32 (padN (List.length (canon (Prod.fst n_3)) + List.length (canon (Prod.snd n_3))) n_4)), Blk.arr (1 : Nat) (1 : Nat) (listG (1 : Nat) [AV.int IntKind.u32 ((↑n : Int) - (1 : Int))]), Blk.arr (List.length (canon (Prod.fst n_11)) + List.length (canon (Prod.snd n_11))) (1 : Nat) (natG IntKind.u32 (padN (List.length (canon (Prod.fst n_11)) + List.length (canon (Prod.snd n_11))) n_12))])))))))) (Tree.side (inR IntKind.i64 ((-1 : Int) + (↑(List.length (canon y)) : Int))) (Tree.side (inR IntKind.i64 ((-1 : Int) + (↑(List.length (canon y)) : Int) + (1 : Int))) (Tree.side ((0 : Int) ≤ (-1 : Int) ∧ (-1 : Int) ≤ (-1 : Int) + (↑(List.length (canon y)) : Int) + (1 : Int) ∧ (-1 : Int) + (↑(List.length (canon y)) : Int) + (1 : Int) ≤ (↑(List.length u) : Int)) (Tree.ex (fun (u_1 : List Nat) => List.length u_1 = List.length u ∧ (0 : Nat) + (Int.toNat ((-1 : Int) + (↑(List.length (canon y)) : Int) + (1 : Int)) - (0 : Nat)) ≤ List.length u ∧ Int.toNat ((-1 : Int) + (↑(List.length (canon y)) : Int) + (1 : Int)) - (0 : Nat) < (4611686018427387904 : Nat) ∧ eqG (List.length u) (1 : Nat) (natG IntKind.u32 u) (natG IntKind.u32 u_1) ∧ dig (List.take (Int.toNat ((-1 : Int) + (↑(List.length (canon y)) : Int) + (1 : Int)) - (0 : Nat)) (List.drop (0 : Nat) u_1))) fun (n_9 : List Nat) => Tree.all (fun (x : Nat) => x = val (List.take (Int.toNat ((-1 : Int) + (↑(List.length (canon y)) : Int) + (1 : Int)) - (0 : Nat)) (List.drop (0 : Nat) n_9))) fun (n_10 : Nat) => Tree.ex (fun (x : Nat × Nat) => eqL [AV.sl (List.length (canon n_10)) (1 : Nat) (viewG (natG IntKind.u32 u) (0 : Nat)), AV.sl (List.length (canon n_4)) (1 : Nat) (viewG (natG IntKind.u32 (padN (List.length (canon (Prod.fst n_3)) + List.length (canon (Prod.snd n_3))) n_4)) (0 : Nat))] [AV.sl (List.length (canon (Prod.fst x))) (1 : Nat) (natG IntKind.u32 (canon (Prod.fst x))), AV.sl (List.length (canon (Prod.snd x))) (1 : Nat) (natG IntKind.u32 (canon (Prod.snd x)))] ∧ fits (Prod.fst x) ∧ Prod.snd x ≤ Prod.fst x) fun (n_11 : Nat × Nat) => Tree.all (fun (d : Nat) => d = Prod.fst n_11 - Prod.snd n_11) fun (n_12 : Nat) => Tree.side (inR IntKind.i64 ((↑(List.length (canon y)) : Int) + (1 : Int))) (Tree.leaf (Leaf2.loop (Prod.fst (lps (inside (inside K46 (0 : Nat)) (0 : Nat)) (0 : Nat))) (Prod.snd (lps (inside (inside K46 (0 : Nat)) (0 : Nat)) (0 : Nat))) [((0 : Nat), AV.undef), ((1 : Nat), AV.undef), ((4 : Nat), AV.osl (4 : Nat) (1 : Nat) (0 : Nat) (List.length q)), ((8 : Nat), AV.int IntKind.u32 (↑s : Int)), ((9 : Nat), AV.int IntKind.i64 (↑(List.length (canon y)) : Int)), ((10 : Nat), AV.osl (1 : Nat) (1 : Nat) (0 : Nat) (List.length u)), ((11 : Nat), AV.osl (3 : Nat) (1 : Nat) (0 : Nat) (List.length (canon V))), ((12 : Nat), AV.int IntKind.i64 (-1 : Int)), ((13 : Nat), AV.int IntKind.u64 (↑n : Int)), ((15 : Nat), AV.sl (List.length (canon n_12)) (1 : Nat) (natG IntKind.u32 (canon n_12))), ((151 : Nat), AV.int IntKind.i64 ((↑(List.length (canon y)) : Int) + (1 : Int))), ((152 : Nat), AV.int IntKind.i64 (0 : Int))] [Blk.dead, Blk.arr (List.length u) (1 : Nat) (natG IntKind.u32 u), Blk.dead, Blk.arr (List.length (canon y) + (1 : Nat)) (1 : Nat) (natG IntKind.u32 (padN (List.length (canon y) + (1 : Nat)) V)), Blk.arr (List.length q) (1 : Nat) (natG IntKind.u32 q), Blk.arr (1 : Nat) (1 : Nat) (listG (1 : Nat) [AV.int IntKind.u32 (↑n : Int)]), Blk.arr (List.length (canon (Prod.fst n_3)) + List.length (canon (Prod.snd n_3))) (1 : Nat) (natG IntKind.u32 (padN (List.length (canon (Prod.fst n_3)) + List.length (canon (Prod.snd n_3))) n_4))])))))))))))))))))))))))))))) (Tree.ex (fun (u_1 : List Nat) => List.length u_1 = List.length u ∧ (0 : Nat) + List.length u ≤ List.length u ∧ List.length u < (4611686018427387904 : Nat) ∧ eqG (List.length u) (1 : Nat) (natG IntKind.u32 u) (natG IntKind.u32 u_1) ∧ dig (List.take (List.length u) (List.drop (0 : Nat) u_1))) fun (n : List Nat) => Tree.all (fun (x : Nat) => x = val (List.take (List.length u) (List.drop (0 : Nat) n))) fun (n : Nat) => Tree.ex (fun (x : Nat × Nat) => eqL [AV.sl (List.length (canon n)) (1 : Nat) (viewG (natG IntKind.u32 u) (0 : Nat)), AV.int IntKind.u32 (↑s : Int)] [AV.sl (List.length (canon (Prod.fst x))) (1 : Nat) (natG IntKind.u32 (canon (Prod.fst x))), AV.int IntKind.u32 (↑(Prod.snd x) : Int)] ∧ fits (Prod.fst x) ∧ (0 : Nat) < Prod.snd x ∧ Prod.snd x < (1000000000 : Nat)) fun (n : Nat × Nat) => Tree.all (fun (r : Nat × Nat) => r = (Prod.fst n / Prod.snd n, Prod.fst n % Prod.snd n)) fun (n : Nat × Nat) => Tree.ex (fun (u : List Nat) => List.length u = List.length q ∧ (0 : Nat) + List.length q ≤ List.length q ∧ List.length q < (4611686018427387904 : Nat) ∧ eqG (List.length q) (1 : Nat) (natG IntKind.u32 q) (natG IntKind.u32 u) ∧ dig (List.take (List.length q) (List.drop (0 : Nat) u))) fun (n_1 : List Nat) => Tree.all (fun (x : Nat) => x = val (List.take (List.length q) (List.drop (0 : Nat) n_1))) fun (n_2 : Nat) => Tree.leaf (Leaf2.ret [AV.osl (4 : Nat) (1 : Nat) (0 : Nat) (List.length (canon n_2)), AV.sl (List.length (canon (Prod.fst n))) (1 : Nat) (natG IntKind.u32 (canon (Prod.fst n)))] [Blk.dead, Blk.arr (List.length u) (1 : Nat) (natG IntKind.u32 u), Blk.dead, Blk.arr (List.length (canon y) + (1 : Nat)) (1 : Nat) (natG IntKind.u32 (padN (List.length (canon y) + (1 : Nat)) V)), Blk.arr (List.length q) (1 : Nat) (natG IntKind.u32 q)]))) (by kernel_rfl) ?_
            simp only [Tree.holds, Leafs2, inR, lo, hi]
            refine ⟨fun hj => by simp at hj, fun hj => ?_⟩
            simp only [List.drop_zero, Nat.pow_zero, Nat.mul_one] at heq hlt
            have hdiv : U / V = val q ∧ U % V = val u := by
              rw [heq]
              exact ⟨by rw [Nat.mul_add_div hV0, Nat.div_eq_of_lt hlt, Nat.add_zero], by rw [Nat.mul_add_mod, Nat.mod_eq_of_lt hlt]⟩
            have hqv : val q = x / y := by rw [← hdiv.1, hqe.1]
            have huv : val u = x % y * s := by rw [← hdiv.2, hqe.2]
            refine ⟨u, ⟨rfl, by omega, by omega, eqG_refl _ _ _, by simpa using hdu⟩, ⟨_, rfl⟩, ?_⟩
            intro X hX
            have hX : X = x % y * s := by simpa [huv] using hX
            have hw : val ((u.drop 0).take u.length) = X := by simp [huv, hX]
            have hXl := eqG_window (k := .u32) (u := u) (off := 0) (n := u.length) (by simpa using hdu) hw
            have hmy := Nat.mod_lt x hy0
            have hXlen : (canon X).length ≤ u.length := by
              refine canon_length_le ?_
              rw [hX, ← huv]; exact val_lt hdu
            refine ⟨(X, s), ⟨?_, by simp only [fits]; omega, hs0, hsB⟩, ⟨_, rfl⟩, ?_⟩
            · simp only [eqL, eqA, eqA0, true_and, and_true]
              exact hXl
            rintro r rfl
            have hXs : X / s = x % y := by rw [hX]; exact Nat.mul_div_cancel _ hs0
            simp only [hXs]
            refine ⟨q, ⟨rfl, by omega, by omega, eqG_refl _ _ _, by simpa using hdq⟩, ⟨_, rfl⟩, ?_⟩
            intro Y hY
            have hY : Y = x / y := by simpa [hqv] using hY
            subst hY
            refine RetR.out0 hq (fun h => by cases h) ?_
            have hw2 : val ((q.drop 0).take q.length) = x / y := by simp [hqv]
            simp only [resV, exp2, List.map_cons, List.map_nil, exp1, exp0, ren0, posIn, frz1, seqOf, List.getElem?_cons_zero, List.getElem?_cons_succ, if_true, eqA2, eqL1, eqA, eqA0, magS, natS, true_and, and_true]
            exact ⟨eqG_window (by simpa using hdq) hw2, eqG_refl _ _ _⟩
          · exact divide_digit hm hx hs0 hsB hV1 hV2 hVl hV0 hul hql hjq hdu hdq heq hlt
end Go.Proofs.Tryd
end


section
namespace Go.Proofs
open Go.RowKit Go.Shelf
attribute [local go_sem] Oper.semAt_some
/-- The groups of nine bytes, the last one first. -/
def chunks (s : ByteArray) (e : Nat) : List ByteArray := if h : e = 0 then [] else s.extract (e - 9) e :: chunks s (e - 9)
termination_by e
decreasing_by omega
theorem chunks_zero (s : ByteArray) : chunks s 0 = [] := by rw [chunks]; simp
theorem chunks_pos (s : ByteArray) {e : Nat} (h : 0 < e) : chunks s e = s.extract (e - 9) e :: chunks s (e - 9) := by rw [chunks]; rw [dif_neg (by omega)]
set_option maxRecDepth 100000 in
theorem Tryd.groups1_in (F : Fence) (n : Nat) (h6 : F.fn 67) (hro : F.round = none) (hd : F.depth = none) (l : Nat) (ad : Addr) (s : ByteArray) (hs : s.size ≤ 9223372036854775807) (J Jx : List ByteArray → World → Prop)
    (Kp : World → World → Prop)
    (hK : ∀ A C, Kp A C → A.cell? ad = some (.string s) → C.cell? ad = some (.string s))
    (hY : ∀ pre x W, J pre W → pre ++ [x] <+: chunks s s.size → YieldAt F (n - 1) Tryd.prog l #[.string x] W fun e W' =>
      (e = .returned (.bool true) ∧ J (pre ++ [x]) W' ∧ Kp W W') ∨ (e = .returned (.bool false) ∧ Jx (pre ++ [x]) W'))
    (W : World) (hBn : W.cell? ad = some (.string s)) (h0 : J [] W) :
    CallsIn F n Tryd.prog 67 #[.func (.yield l) #[] #[], .pointer (some ad)] W fun e W' => (∃ v, e = .returned v) ∧
      ((∃ ys, ys = chunks s s.size ∧ J ys W') ∨ (∃ pre, pre <+: chunks s s.size ∧ Jx pre W')) := by
  refine callsIn_of_wp Tryd.func67 rfl h6 ?_ hro
  simp only [Tryd.ntmps67, List.size_toArray, List.length_cons, List.length_nil, Nat.reduceAdd, Nat.reduceSub, Array.replicate_succ, Array.replicate_zero, List.push_toArray, List.append_toArray, List.nil_append, List.cons_append]
  gi_wp2
  gi_loopw [3] (fun e wr => ∃ (pre rest : List ByteArray) (z : Int), e = .int .i64 z ∧ z ≤ s.size ∧ -9 < z ∧ chunks s s.size = pre ++ rest ∧ rest = chunks s z.toNat ∧ J pre wr ∧ wr.cell? ad = some (.string s))
    (fun e wr => (intOf e).toNat)
  case atStart =>
    exact ⟨[], _, s.size, rfl, Int.le_refl _, by omega, rfl, by simp, h0, hBn⟩
  case round =>
    obtain ⟨pre, rest, z, rfl, hz1, hz2, hx, hr, hJ, hc⟩ := hrel
    by_cases hz : 0 < z
    · obtain ⟨e, rfl⟩ : ∃ e : Nat, z = e := ⟨z.toNat, by omega⟩
      have he : 0 < e := by omega
      simp only [Int.toNat_natCast] at hr
      rw [chunks_pos s he] at hr
      have hlen : pre ++ [s.extract (e - 9) e] <+: chunks s s.size := ⟨chunks s (e - 9), by rw [hx, hr]; simp⟩
      obtain ⟨fn, tmps, assign, body, hy, hR⟩ := hY pre (s.extract (e - 9) e) wr hJ hlen
      have Hx := Lib.hid hx
      have Hr := Lib.hid hr
      clear hx hr
      have hR2 := hR
      by_cases h9 : 9 < e
      · have hsl : (Instr.slice 9 (.string s) (some (.int .i64 ((e : Int) - 9))) (some (.int .i64 (e : Int))) none).run Tryd.prog wr = .ok (.string (s.extract (e - 9) e)) wr := by
          have := run_slice_string (P := Tryd.prog) (w := wr) 9 s .i64 .i64 ((e : Int) - 9) e Tryd.underlying9 (by omega) (by omega) (by omega)
          rw [show ((e : Int) - 9).toNat = e - 9 by omega, Int.toNat_natCast] at this
          exact this
        gi_wp2
        refine hR2.mono ?_
        rintro e' W' (⟨rfl, hJ', hk⟩ | ⟨rfl, hJx'⟩)
        · have hc' := hK _ _ hk hc
          gi_wp2
          go_roundw
          case rel => exact ⟨pre ++ [s.extract (e - 9) e], chunks s (e - 9), (e : Int) - 9, rfl, by omega, by omega, by rw [Hx.out, Hr.out]; simp, by rw [show ((e : Int) - 9).toNat = e - 9 by omega], hJ', hc'⟩
          case measure => simp [intOf]; omega
        · gi_wp2
          refine bodyPost_ret (results_none rfl _ _ _) rfl ?_
          exact ⟨⟨_, rfl⟩, .inr ⟨pre ++ [s.extract (e - 9) e], ⟨chunks s (e - 9), by rw [Hx.out, Hr.out]; simp⟩, hJx'⟩⟩
      · have hsl : (Instr.slice 9 (.string s) (some (.int .i64 0)) (some (.int .i64 (e : Int))) none).run Tryd.prog wr = .ok (.string (s.extract (e - 9) e)) wr := by
          have := run_slice_string (P := Tryd.prog) (w := wr) 9 s .i64 .i64 0 e Tryd.underlying9 (by omega) (by omega) (by omega)
          rw [Int.toNat_natCast] at this
          rw [show e - 9 = (0 : Int).toNat by simp; omega]
          exact this
        gi_wp2
        refine hR2.mono ?_
        rintro e' W' (⟨rfl, hJ', hk⟩ | ⟨rfl, hJx'⟩)
        · have hc' := hK _ _ hk hc
          gi_wp2
          go_roundw
          case rel => exact ⟨pre ++ [s.extract (e - 9) e], chunks s (e - 9), (e : Int) - 9, rfl, by omega, by omega, by rw [Hx.out, Hr.out]; simp, by rw [show ((e : Int) - 9).toNat = e - 9 by omega], hJ', hc'⟩
          case measure => simp [intOf]; omega
        · gi_wp2
          refine bodyPost_ret (results_none rfl _ _ _) rfl ?_
          exact ⟨⟨_, rfl⟩, .inr ⟨pre ++ [s.extract (e - 9) e], ⟨chunks s (e - 9), by rw [Hx.out, Hr.out]; simp⟩, hJx'⟩⟩
    · have hz0 : z.toNat = 0 := by omega
      rw [hz0, chunks_zero] at hr
      subst hr
      have Hx := Lib.hid hx
      clear hx
      gi_wp2
      go_end0
      exact ⟨⟨_, rfl⟩, .inl (by rw [Hx.out]; simpa using hJ)⟩
/-- groups' closure, for a loop over it. -/
theorem Tryd.groups1_stops (p : ByteArray → Prop) (ad : Addr) (s : ByteArray) (hp : ∀ x ∈ chunks s s.size, p x) (hs : s.size ≤ 9223372036854775807) (w : World) (hc : w.cell? ad = some (.string s)) :
    SeqStopsK Fence.wide 0 Tryd.prog 67 #[.pointer (some ad)] (fun x : {x : ByteArray // p x} => #[.string x.1]) (fun W W' => W.cell? ad = some (.string s) → W'.cell? ad = some (.string s)) (fun xs => xs.map (·.1) = chunks s s.size) (fun pre => pre.map (·.1) <+: chunks s s.size) (chunks s s.size).length w := by
  intro l J Jx W hW _ _ hY h0
  have hlt : ad.block < w.heap.size := by
    unfold World.cell? at hc
    cases hb : w.heap[ad.block]? with
    | none => simp [hb] at hc
    | some o => exact (Array.getElem?_eq_some_iff.1 hb).1
  have hcW : W.cell? ad = some (.string s) := by rw [hW.cell (p := ad) hlt]; exact hc
  refine CallsIn.mono (Tryd.groups1_in Fence.wide 0 trivial rfl rfl l ad s hs (fun pre W => ∃ q : List {x : ByteArray // p x}, q.map (·.1) = pre ∧ J q W) (fun pre W => ∃ q : List {x : ByteArray // p x}, q.map (·.1) = pre ∧ Jx q W) _ (fun _ _ h => h) ?_ W hcW ⟨[], rfl, h0⟩) ?_
  · rintro pre x W1 ⟨q, rfl, hq⟩ hpre
    have hx : p x := hp x (hpre.subset (by simp))
    have hlen : q.length < (chunks s s.size).length := by
      have := hpre.length_le
      simp at this
      omega
    refine YieldAt.mono (hY q ⟨x, hx⟩ W1 hq hlen) ?_
    rintro e W' (⟨rfl, h2, h3⟩ | ⟨rfl, h2⟩)
    · exact .inl ⟨rfl, ⟨q ++ [⟨x, hx⟩], by simp, h2⟩, h3⟩
    · exact .inr ⟨rfl, ⟨q ++ [⟨x, hx⟩], by simp, h2⟩⟩
  · rintro e W' ⟨hv, h⟩
    refine ⟨hv, ?_⟩
    rcases h with ⟨ys, hys, q, hq, hJ⟩ | ⟨pre, hpre, q, hq, hJ⟩
    · exact .inl ⟨q, hq.trans hys, hJ⟩
    · exact .inr ⟨q, by show q.map (·.1) <+: _; rw [hq]; exact hpre, hJ⟩
end Go.Proofs
end

/- The integers' texts: reading. -/
section
set_option linter.unusedVariables false
set_option linter.unusedSimpArgs false
set_option maxRecDepth 100000
open Go Go.Sx Go.Proofs Go.Nov
namespace Go.Proofs.Tryd
attribute [local simp] eqKV eqA eqA0 eqH eqB eqL eqL0
noncomputable def K62 : List Go.Sx.Item := [.code (Tryd.f62.body.getD .skip)]
noncomputable def K52 : List Go.Sx.Item := [.code (Tryd.f52.body.getD .skip)]

def groupsC : Ctr := ctrT false false (fun s : List UInt8 => [.str s]) (fun _ => []) (fun _ => True) (fun _ (_ : Unit) => True) (fun s _ => (.fn 67 [] [.ptr 0 0], [.box [.str s]]))
theorem groups_ok : CtrOK Tryd.prog 62 groupsC := by
  refine fn_ctrT (fn := Tryd.f62) (c := Tryd.f62.body.getD .skip) rfl rfl rfl (fun h => by cases h) fun s hp O w0 σ0 Q hl hq => ?_
  have h0 : σ0 = [] := List.length_eq_zero_iff.1 (by simpa using hl)
  subst h0
  refine SafeK.run (k := K62) hmix noG_ok [0] 400 (T := Tree.leaf (Leaf2.ret [AV.fn (67 : Nat) [] [AV.ptr (0 : Nat) (0 : Nat)]] [Blk.box [AV.str s]])) (by kernel_rfl) ?_
  simp only [Tree.holds, Leafs2]
  exact RetR.out1 0 (by simp) (hq () trivial) (fun h => by cases h) (by simp [resV, exp2, exp1, exp0, posIn, ren0, eqA2]) (by simp [expB, exp1, exp0, ren0])
def G3 : Nat → Option Ctr := fun f => if f = 62 then some (groupsC) else if f = 55 then some (trimC) else none
theorem G3_ok : ∀ g c, G3 g = some c → CtrOK Tryd.prog g c := by
  intro g c h
  unfold G3 at h
  by_cases hg : g = 62
  · subst hg
    rw [if_pos rfl] at h
    cases h
    exact groups_ok
  rw [if_neg hg] at h
  clear hg
  by_cases hg : g = 55
  · subst hg
    rw [if_pos rfl] at h
    cases h
    exact trim_ok
  rw [if_neg hg] at h
  clear hg
  cases h

def KR : KV := [(2, .ptr 0 0), (3, .ptr 1 0), (5, .undef), (6, .undef), (16, .fn 67 [] [.ptr 2 0]), (17, .undef), (19, .undef), (20, .undef)]
def HR (neg : Bool) (b : List UInt8) : List Nat → Heap
  | [] => [.box [.bool false, .nils], .box [.bool neg, .nils], .box [.str b]]
  | d :: o => [.box [.bool false, .nils], .box [.bool neg, .osl 4 1 0 (o.length + 1)], .box [.str b], .arr 1 1 (natG .u32 [d]), .arr (o.length + 1) 1 (natG .u32 (d :: o))]

theorem chunks_val (s : ByteArray) : ∀ e, e ≤ s.size → val ((chunks s e).map decB) = numD (s.data.toList.take e) := by
  intro e
  induction e using Nat.strongRecOn with
  | _ e ih =>
    intro he
    rcases Nat.eq_zero_or_pos e with h | h
    · subst h; simp [chunks_zero, val, numD]
    · rw [chunks_pos s h, List.map_cons, val, ih (e - 9) (by omega) (by omega)]
      have hl : s.data.toList.length = s.size := by rw [Array.length_toList]; rfl
      have h1 : s.data.toList.take e = s.data.toList.take (e - 9) ++ (s.data.toList.take e).drop (e - 9) := by
        conv => lhs; rw [← List.take_append_drop (e - 9) (s.data.toList.take e)]
        rw [List.take_take, Nat.min_eq_left (by omega)]
      rw [h1, numD_append, decB, extract_list, Nat.add_comm, Nat.mul_comm]
      congr 1
      rcases Nat.lt_or_ge e 9 with h9 | h9
      · rw [show e - 9 = 0 by omega]; simp [numD]
      · congr 1
        have : ((s.data.toList.take e).drop (e - 9)).length = 9 := by simp; omega
        rw [this]
theorem chunks_mem (s : ByteArray) (hd : allD s.data.toList) : ∀ e, e ≤ s.size → ∀ x ∈ chunks s e, x.size ≤ 9 ∧ allD x.data.toList := by
  intro e
  induction e using Nat.strongRecOn with
  | _ e ih =>
    intro he x hx
    rcases Nat.eq_zero_or_pos e with h | h
    · subst h; simp [chunks_zero] at hx
    · rw [chunks_pos s h] at hx
      rcases List.mem_cons.1 hx with rfl | hx
      · refine ⟨by rw [ByteArray.size_extract]; omega, ?_⟩
        rw [extract_list]
        intro c hc
        exact hd c (List.mem_of_mem_take (List.mem_of_mem_drop hc))
      · exact ih (e - 9) (by omega) (by omega) x hx
theorem chunks_len (s : ByteArray) : ∀ e, (chunks s e).length ≤ e := by
  intro e
  induction e using Nat.strongRecOn with
  | _ e ih =>
    rcases Nat.eq_zero_or_pos e with h | h
    · subst h; simp [chunks_zero]
    · rw [chunks_pos s h, List.length_cons]
      have := ih (e - 9) (by omega)
      omega

abbrev Grp : Type := {x : ByteArray // x.size ≤ 9 ∧ allD x.data.toList}
def readC : Ctr := ctrP false (fun p : Bool × List UInt8 => [.str (sgn p.1 p.2)]) (fun p => allD p.2 ∧ p.2 ≠ [] ∧ p.2.length ≤ 1000000) (fun p r => r = numD p.2) (fun p r => (.agg [.bool p.1, magS r], []))
def SR (x : List UInt8) (v i : Nat) : KV := [(2, .ptr 0 0), (3, .ptr 1 0), (5, .str x), (6, .int .u32 (v : Int)), (16, .undef), (17, .undef), (19, .int .i64 (x.length : Int)), (20, .int .i64 (i : Int))]

theorem read_core {O : Nat → Prop} {W : World} {σ1 : List SE} (l : Nat) (neg : Bool) (b : List UInt8) (o : List Nat) (ho : o.length ≤ 1000000) (y : List UInt8) (hxd : allD y) (hx9 : y.length ≤ 9) (X : Prop) (Hx : Heap) :
    SafeKM (some l) Tryd.prog (bare Tryd.f52) O 3 W σ1 (fun d kv' h' => LeK 3 Tryd.f52.ntmps [] h' [] (HR neg b (o ++ [numD y]))) (fun _ h' => X ∧ LeK 3 Tryd.f52.ntmps [] h' [] Hx) (.code (.loop (lps (roundOf K52 0) 0).1) :: (lps (roundOf K52 0) 0).2)
      (mk Tryd.f52.ntmps [(2, .ptr 0 0), (3, .ptr 1 0), (5, .str y), (6, .int .u32 0), (16, .fn 67 [] [.ptr 2 0]), (17, .str y), (19, .int .i64 (y.length : Int)), (20, .int .i64 0)] (HR neg b o)) := by
  refine SafeK.loop (ι := {i : Nat // i ≤ y.length}) (fun i => SR y (numD (y.take i.1)) i.1) (fun _ => HR neg b o) (fun i => y.length - i.1) ⟨0, Nat.zero_le _⟩ 1 ?_ ?_ (by kernel_rfl)
  · refine ⟨by simp [SR, numD], ?_, ?_, ?_⟩
    · cases o <;> simp [HR, eqG_refl]
    · cases o <;> kernel_rfl
    · cases o <;> simp [HR]
  · rintro ⟨i, hil⟩
    have hbound : numD (y.take i) < 1000000000 := by
      have h1 := numD_lt (l := y.take i) fun c hc => hxd c (List.mem_of_mem_take hc)
      have h2 : 10 ^ (y.take i).length ≤ 10 ^ 9 := Nat.pow_le_pow_right (by decide) (by rw [List.length_take]; omega)
      have h4 : (10 : Nat) ^ 9 = 1000000000 := by decide
      omega
    have hnext : ∀ h : i < y.length, numD (y.take (i + 1)) = numD (y.take i) * 10 + ((y.getD i 0).toNat - 48) := by
      intro h; rw [take_snocD y i h, numD_snoc]
    have hdig : i < y.length → 48 ≤ (y.getD i 0).toNat ∧ (y.getD i 0).toNat ≤ 57 := by
      intro h
      have := hxd (y.getD i 0) (by simp [List.getD, h])
      exact this
    have hnb : i < y.length → numD (y.take (i + 1)) < 1000000000 := by
      intro h
      have h1 := numD_lt (l := y.take (i + 1)) fun c hc => hxd c (List.mem_of_mem_take hc)
      have h2 : 10 ^ (y.take (i + 1)).length ≤ 10 ^ 9 := Nat.pow_le_pow_right (by decide) (by rw [List.length_take]; omega)
      have h4 : (10 : Nat) ^ 9 = 1000000000 := by decide
      omega
    obtain ⟨v, hv⟩ : ∃ v, numD (y.take i) = v := ⟨_, rfl⟩
    simp only [hv] at hbound hnext ⊢
    have ei : ((i : Int) + 1) = ((i + 1 : Nat) : Int) := by omega
    cases o with
    | nil =>
      refine SafeK.run (k := inside (roundOf K52 0) 0) hmix G3_ok [2, 3, 5, 6, 16, 17, 19, 20] 400 (T := Tree.ite (decide ((↑i : Int) < (↑(List.length y) : Int))) (Tree.side (inR IntKind.u32 ((↑v : Int) * (10 : Int))) (Tree.side ((0 : Int) ≤ (↑i : Int) ∧ (↑i : Int) < (↑(List.length y) : Int)) (Tree.side (inR IntKind.u8 ((↑(UInt8.toNat (List.getD y (Int.toNat (↑i : Int)) (0 : UInt8))) : Int) - (48 : Int))) (Tree.side (inR IntKind.u32 ((↑(UInt8.toNat (List.getD y (Int.toNat (↑i : Int)) (0 : UInt8))) : Int) - (48 : Int))) (Tree.side (inR IntKind.u32 ((↑v : Int) * (10 : Int) + ((↑(UInt8.toNat (List.getD y (Int.toNat (↑i : Int)) (0 : UInt8))) : Int) - (48 : Int)))) (Tree.side (inR IntKind.i64 ((↑i : Int) + (1 : Int))) (Tree.leaf (Leaf2.back (1 : Nat) [((2 : Nat), AV.ptr (0 : Nat) (0 : Nat)), ((3 : Nat), AV.ptr (1 : Nat) (0 : Nat)), ((5 : Nat), AV.str y), ((6 : Nat), AV.int IntKind.u32 ((↑v : Int) * (10 : Int) + ((↑(UInt8.toNat (List.getD y (Int.toNat (↑i : Int)) (0 : UInt8))) : Int) - (48 : Int)))), ((16 : Nat), AV.undef), ((17 : Nat), AV.undef), ((19 : Nat), AV.int IntKind.i64 (↑(List.length y) : Int)), ((20 : Nat), AV.int IntKind.i64 ((↑i : Int) + (1 : Int)))] [Blk.box [AV.bool false, AV.nils], Blk.box [AV.bool neg, AV.nils], Blk.box [AV.str b]])))))))) (Tree.side ((4 : Nat) ≤ (140737488355328 : Nat)) (Tree.leaf (Leaf2.back (0 : Nat) [((2 : Nat), AV.ptr (0 : Nat) (0 : Nat)), ((3 : Nat), AV.ptr (1 : Nat) (0 : Nat)), ((5 : Nat), AV.str y), ((6 : Nat), AV.int IntKind.u32 (↑v : Int)), ((16 : Nat), AV.undef), ((17 : Nat), AV.undef), ((19 : Nat), AV.int IntKind.i64 (↑(List.length y) : Int)), ((20 : Nat), AV.int IntKind.i64 (↑i : Int))] [Blk.box [AV.bool false, AV.nils], Blk.box [AV.bool neg, AV.osl (4 : Nat) (1 : Nat) (0 : Nat) (1 : Nat)], Blk.box [AV.str b], Blk.arr (1 : Nat) (1 : Nat) (listG (1 : Nat) [AV.int IntKind.u32 (↑v : Int)]), Blk.arr (1 : Nat) (1 : Nat) (viewG (listG (1 : Nat) [AV.int IntKind.u32 (↑v : Int)]) (0 : Nat))])))) (by kernel_rfl) ?_
      simp only [Tree.holds, Leafs2, inR, lo, hi, Int.toNat_natCast, ei]
      refine ⟨fun hlt => ?_, fun hge => ?_⟩
      · have hlt : i < y.length := by simp at hlt; omega
        have h1 := hdig hlt
        have h2 := hnb hlt
        have h3 := hnext hlt
        generalize (y.getD i 0).toNat = c at h1 h3 ⊢
        iterate 6 refine ⟨by omega, fun _ => ?_⟩
        rw [if_pos trivial]
        refine ⟨⟨i + 1, hlt⟩, by show y.length - (i + 1) < y.length - i; omega, ?_, by simp [HR], by kernel_rfl, by simp [HR]⟩
        simp [SR, h3]; omega
      · have hge : i = y.length := by simp at hge; omega
        subst hge
        rw [List.take_length] at hv
        refine ⟨by omega, fun _ => ?_⟩
        rw [if_neg (by decide), hv]
        refine ⟨by simp, ?_, by kernel_rfl, by simp [HR]⟩
        simp only [List.nil_append, HR]
        refine ⟨by simp, by simp, by simp, ⟨rfl, rfl, eqG_one _ _⟩, ⟨rfl, rfl, ?_⟩, trivial⟩
        exact fun j o hj ho => by simpa [viewG] using eqG_one .u32 v j o hj ho
    | cons d o =>
      refine SafeK.run (k := inside (roundOf K52 0) 0) hmix G3_ok [2, 3, 5, 6, 16, 17, 19, 20] 400 (T := Tree.ite (decide ((↑i : Int) < (↑(List.length y) : Int))) (Tree.side (inR IntKind.u32 ((↑v : Int) * (10 : Int))) (Tree.side ((0 : Int) ≤ (↑i : Int) ∧ (↑i : Int) < (↑(List.length y) : Int)) (Tree.side (inR IntKind.u8 ((↑(UInt8.toNat (List.getD y (Int.toNat (↑i : Int)) (0 : UInt8))) : Int) - (48 : Int))) (Tree.side (inR IntKind.u32 ((↑(UInt8.toNat (List.getD y (Int.toNat (↑i : Int)) (0 : UInt8))) : Int) - (48 : Int))) (Tree.side (inR IntKind.u32 ((↑v : Int) * (10 : Int) + ((↑(UInt8.toNat (List.getD y (Int.toNat (↑i : Int)) (0 : UInt8))) : Int) - (48 : Int)))) (Tree.side (inR IntKind.i64 ((↑i : Int) + (1 : Int))) (Tree.leaf (Leaf2.back (1 : Nat) [((2 : Nat), AV.ptr (0 : Nat) (0 : Nat)), ((3 : Nat), AV.ptr (1 : Nat) (0 : Nat)), ((5 : Nat), AV.str y), ((6 : Nat), AV.int IntKind.u32 ((↑v : Int) * (10 : Int) + ((↑(UInt8.toNat (List.getD y (Int.toNat (↑i : Int)) (0 : UInt8))) : Int) - (48 : Int)))), ((16 : Nat), AV.undef), ((17 : Nat), AV.undef), ((19 : Nat), AV.int IntKind.i64 (↑(List.length y) : Int)), ((20 : Nat), AV.int IntKind.i64 ((↑i : Int) + (1 : Int)))] [Blk.box [AV.bool false, AV.nils], Blk.box [AV.bool neg, AV.osl (4 : Nat) (1 : Nat) (0 : Nat) (List.length o + (1 : Nat))], Blk.box [AV.str b], Blk.arr (1 : Nat) (1 : Nat) (natG IntKind.u32 [d]), Blk.arr (List.length o + (1 : Nat)) (1 : Nat) (natG IntKind.u32 (d :: o))])))))))) (Tree.side ((0 : Nat) = (0 : Nat) ∧ List.length o + (1 : Nat) ≤ List.length o + (1 : Nat) ∧ (List.length o + (1 : Nat) + (1 : Nat)) * (4 : Nat) ≤ (140737488355328 : Nat)) (Tree.leaf (Leaf2.back (0 : Nat) [((2 : Nat), AV.ptr (0 : Nat) (0 : Nat)), ((3 : Nat), AV.ptr (1 : Nat) (0 : Nat)), ((5 : Nat), AV.str y), ((6 : Nat), AV.int IntKind.u32 (↑v : Int)), ((16 : Nat), AV.undef), ((17 : Nat), AV.undef), ((19 : Nat), AV.int IntKind.i64 (↑(List.length y) : Int)), ((20 : Nat), AV.int IntKind.i64 (↑i : Int))] [Blk.box [AV.bool false, AV.nils], Blk.box [AV.bool neg, AV.osl (4 : Nat) (1 : Nat) (0 : Nat) (List.length o + (1 : Nat) + (1 : Nat))], Blk.box [AV.str b], Blk.arr (1 : Nat) (1 : Nat) (natG IntKind.u32 [d]), Blk.arr (List.length o + (1 : Nat) + (1 : Nat)) (1 : Nat) (appG (List.length o + (1 : Nat)) (natG IntKind.u32 (d :: o)) (viewG (listG (1 : Nat) [AV.int IntKind.u32 (↑v : Int)]) (0 : Nat))), Blk.arr (1 : Nat) (1 : Nat) (listG (1 : Nat) [AV.int IntKind.u32 (↑v : Int)])])))) (by kernel_rfl) ?_
      simp only [Tree.holds, Leafs2, inR, lo, hi, Int.toNat_natCast, ei]
      refine ⟨fun hlt => ?_, fun hge => ?_⟩
      · have hlt : i < y.length := by simp at hlt; omega
        have h1 := hdig hlt
        have h2 := hnb hlt
        have h3 := hnext hlt
        generalize (y.getD i 0).toNat = c at h1 h3 ⊢
        iterate 6 refine ⟨by omega, fun _ => ?_⟩
        rw [if_pos trivial]
        refine ⟨⟨i + 1, hlt⟩, by show y.length - (i + 1) < y.length - i; omega, ?_, by simp [HR, eqG_refl], by kernel_rfl, by simp [HR]⟩
        simp [SR, h3]; omega
      · have hge : i = y.length := by simp at hge; omega
        subst hge
        rw [List.take_length] at hv
        refine ⟨⟨trivial, Nat.le_refl _, by simp only [List.length_cons] at ho; omega⟩, fun _ => ?_⟩
        rw [if_neg (by decide), hv]
        refine ⟨by simp, ?_, by kernel_rfl, by simp [HR]⟩
        simp only [List.cons_append, HR]
        refine ⟨by simp, by simp, by simp, ⟨rfl, rfl, eqG_refl _ _ _⟩, ⟨by simp, rfl, ?_⟩, trivial⟩
        have := eqG_push (k := .u32) (l := d :: o) (v := ((v : Nat) : Int)) (by omega)
        simpa using this
/-- A round: one group more. -/
theorem read_round {O : Nat → Prop} {W : World} {σ1 : List SE} (l : Nat) (neg : Bool) (b : List UInt8) (o : List Nat) (ho : o.length ≤ 1000000) (x : Grp) (X : Prop) (Hx : Heap) :
    SafeKM (some l) Tryd.prog (bare Tryd.f52) O 3 W σ1 (fun d kv' h' => LeK 3 Tryd.f52.ntmps [] h' [] (HR neg b (o ++ [decB x.1]))) (fun _ h' => X ∧ LeK 3 Tryd.f52.ntmps [] h' [] Hx) (roundOf K52 0) (mk Tryd.f52.ntmps ((5, .str x.1.data.toList) :: (17, .str x.1.data.toList) :: KR) (HR neg b o)) := by
  obtain ⟨x, hx9, hxd⟩ := x
  simp only
  have hxl : x.data.toList.length = x.size := by rw [Array.length_toList]; rfl
  have hdB : decB x = numD x.data.toList := rfl
  rw [hdB]
  generalize x.data.toList = y at hxd hxl
  have core : SafeKM (some l) Tryd.prog (bare Tryd.f52) O 3 W σ1 (fun d kv' h' => LeK 3 Tryd.f52.ntmps [] h' [] (HR neg b (o ++ [numD y]))) (fun _ h' => X ∧ LeK 3 Tryd.f52.ntmps [] h' [] Hx) (.code (.loop (lps (roundOf K52 0) 0).1) :: (lps (roundOf K52 0) 0).2)
      (mk Tryd.f52.ntmps [(2, .ptr 0 0), (3, .ptr 1 0), (5, .str y), (6, .int .u32 0), (16, .fn 67 [] [.ptr 2 0]), (17, .str y), (19, .int .i64 (y.length : Int)), (20, .int .i64 0)] (HR neg b o)) := by
    exact read_core l neg b o ho y hxd (by omega) X Hx
  cases o with
  | nil =>
    refine SafeK.run (k := roundOf K52 0) hmix G3_ok [2, 3, 5, 6, 16, 17, 19, 20] 400 (T := Tree.leaf (Leaf2.loop (Prod.fst (lps (roundOf K52 (0 : Nat)) (0 : Nat))) (Prod.snd (lps (roundOf K52 (0 : Nat)) (0 : Nat))) [((2 : Nat), AV.ptr (0 : Nat) (0 : Nat)), ((3 : Nat), AV.ptr (1 : Nat) (0 : Nat)), ((5 : Nat), AV.str y), ((6 : Nat), AV.int IntKind.u32 (0 : Int)), ((16 : Nat), AV.fn (67 : Nat) [] [AV.ptr (2 : Nat) (0 : Nat)]), ((17 : Nat), AV.str y), ((19 : Nat), AV.int IntKind.i64 (↑(List.length y) : Int)), ((20 : Nat), AV.int IntKind.i64 (0 : Int))] [Blk.box [AV.bool false, AV.nils], Blk.box [AV.bool neg, AV.nils], Blk.box [AV.str b]])) (by kernel_rfl) ?_
    simp only [Tree.holds, Leafs2]
    exact core
  | cons d o =>
    refine SafeK.run (k := roundOf K52 0) hmix G3_ok [2, 3, 5, 6, 16, 17, 19, 20] 400 (T := Tree.leaf (Leaf2.loop (Prod.fst (lps (roundOf K52 (0 : Nat)) (0 : Nat))) (Prod.snd (lps (roundOf K52 (0 : Nat)) (0 : Nat))) [((2 : Nat), AV.ptr (0 : Nat) (0 : Nat)), ((3 : Nat), AV.ptr (1 : Nat) (0 : Nat)), ((5 : Nat), AV.str y), ((6 : Nat), AV.int IntKind.u32 (0 : Int)), ((16 : Nat), AV.fn (67 : Nat) [] [AV.ptr (2 : Nat) (0 : Nat)]), ((17 : Nat), AV.str y), ((19 : Nat), AV.int IntKind.i64 (↑(List.length y) : Int)), ((20 : Nat), AV.int IntKind.i64 (0 : Int))] [Blk.box [AV.bool false, AV.nils], Blk.box [AV.bool neg, AV.osl (4 : Nat) (1 : Nat) (0 : Nat) (List.length o + (1 : Nat))], Blk.box [AV.str b], Blk.arr (1 : Nat) (1 : Nat) (natG IntKind.u32 [d]), Blk.arr (List.length o + (1 : Nat)) (1 : Nat) (natG IntKind.u32 (d :: o))])) (by kernel_rfl) ?_
    simp only [Tree.holds, Leafs2]
    exact core
theorem HR_alive (neg : Bool) (b : List UInt8) (o : List Nat) : ∀ x ∈ HR neg b o, alive x := by
  cases o with
  | nil => simp [HR, alive]
  | cons d o => simp [HR, alive]
theorem read_loop {O : Nat → Prop} {w0 : World} {Q : AV × Heap → Prop} (neg : Bool) (b : List UInt8) (hb : allD b) (hb0 : b ≠ []) (hbl : b.length ≤ 1000000) (hq : Q (.agg [.bool neg, magS (numD b)], [])) :
    SafeK Tryd.prog Tryd.f52 O 0 w0 [] (fun _ _ _ => False) (RetR readC 0 Q) (.code (rfs K52 0).1 :: (rfs K52 0).2) (mk Tryd.f52.ntmps KR (HR neg b [])) := by
  let s : ByteArray := ⟨b.toArray⟩
  have hsl : s.data.toList = b := rfl
  have hss : s.size = b.length := by simp [s, ByteArray.size]
  refine SafeK.range (tg := 16) (tp := 17) (td := 5) (α := Grp) (by kernel_rfl) (cap := [.ptr 2 0]) (enters_of Tryd.func67 (by kernel_rfl) rfl) (fun x => .str x.1.data.toList) (fun pre => HR neg b (pre.map fun x => decB x.1)) (fun _ => []) (fun _ => False) (fun xs => xs.map (·.1) = chunks s s.size) (fun pre => pre.map (·.1) <+: chunks s s.size) (chunks s s.size).length 3
    (by kernel_rfl) (by decide +kernel) (by decide +kernel) (fun x t c y h => by cases h) ⟨by simp [KR], by simp [HR], by kernel_rfl, Nat.zero_le _⟩ (by kernel_rfl) (Nat.zero_le _) (fun pre => HR_alive _ _ _) (fun pre c hc => by cases hc) ?_ ?_ ?_ (fun _ _ h => h.elim)
  · -- the iterator
    intro w σ a hm vb hvb
    simp only [RepL] at hvb
    obtain ⟨v, r, rfl, hv, rfl⟩ := hvb
    simp only [Rep] at hv
    obtain ⟨e, ad, he, had, rfl⟩ := hv
    have hcell : ∀ (W : World) (σ' : List SE) (o : List Nat), HRep (Go.Sx.Own O σ') W σ' (HR neg b o) → ∀ e' ad, σ'[2]? = some e' → e'.ad = some ad → W.cell? ⟨ad.block, ad.off + 0, none⟩ = some (.string s) := by
      intro W σ' o hp e' ad he' had'
      have hb2 : (HR neg b o)[2]? = some (.box [.str b]) := by cases o <;> rfl
      obtain ⟨ad', vs, el, h1, h2, h3, h4⟩ := hp.blk 2 e' _ he' hb2
      rw [had'] at h1; cases h1
      simp only [RepL, Rep] at h4
      obtain ⟨v, r, rfl, rfl, rfl⟩ := h4
      simp [World.cell?, h3, h2, s]
    refine ⟨fun W => W.cell? ⟨ad.block, ad.off + 0, none⟩ = some (.string s), fun x => .string x.1, ?_, ?_, ?_⟩
    · exact Tryd.groups1_stops (fun x => x.size ≤ 9 ∧ allD x.data.toList) ⟨ad.block, ad.off + 0, none⟩ s (chunks_mem s (hsl ▸ hb) s.size (Nat.le_refl _)) (by omega) w (hcell w σ [] hm.hp e ad he had)
    · intro pre W σ' hM
      refine ⟨?_, fun x => by simp [Rep]⟩
      -- the slot that holds the closure says where its box lies
      have ht := hM.tm 16
      have h16 : (mk Tryd.f52.ntmps KR (HR neg b (pre.map fun x => decB x.1))).tmps.getD 16 .undef = .fn 67 [] [.ptr 2 0] := by kernel_rfl
      have ht0 := hm.tm 16
      have h160 : (mk Tryd.f52.ntmps KR (HR neg b (([] : List Grp).map fun x => decB x.1))).tmps.getD 16 .undef = .fn 67 [] [.ptr 2 0] := by kernel_rfl
      rw [h16] at ht
      rw [h160] at ht0
      simp only [TRep, Rep, RepL] at ht ht0
      obtain ⟨va, vb', h1, _, v, r, h2, ⟨e1, ad1, h3, h4, h5⟩, h6⟩ := ht
      obtain ⟨va', vb2, g1, _, v', r', g2, ⟨e2, ad2, g3, g4, g5⟩, g6⟩ := ht0
      rw [he] at g3; cases g3
      rw [had] at g4; cases g4
      rw [g1] at h1
      simp only [Value.func.injEq] at h1
      have h7 : vb2 = vb' := by
        have := h1.2.2
        simpa using this
      rw [g2, h2, g5, h5] at h7
      simp only [List.cons.injEq, Value.pointer.injEq, Option.some.injEq] at h7
      have h8 := hcell W σ' _ hM.hp e1 ad1 h3 h4
      rw [← h7.1] at h8
      exact h8
    · intro W l o o' hl ho hoc hK
      exact cell_grown (grownBy_putObj' W l o') (fun r e => by cases e; exact ⟨o, ho, hoc⟩) hK
  · -- a round
    intro l pre x hlen W σ1
    have hpl : (pre.map fun x => decB x.1).length ≤ 1000000 := by
      have := chunks_len s s.size
      simp; omega
    have := read_round (O := O) (W := W) (σ1 := σ1) l neg b (pre.map fun x => decB x.1) hpl x False []
    simp only [List.map_append, List.map_cons, List.map_nil]
    exact this
  · -- the end
    intro xs hxs
    have ho : xs.map (fun x => decB x.1) = (chunks s s.size).map decB := by rw [← hxs, List.map_map]; rfl
    have hv : val (xs.map fun x => decB x.1) = numD b := by
      rw [ho, chunks_val s s.size (Nat.le_refl _), List.take_of_length_le (by rw [Array.length_toList]; exact Nat.le_refl _)]
    have hdg : dig (xs.map fun x => decB x.1) := by
      intro d hd
      obtain ⟨x, _, rfl⟩ := List.mem_map.1 hd
      exact decB_lt x.2.2 x.2.1
    have hpos : 0 < s.size := by rw [hss]; exact List.length_pos_iff.2 hb0
    have hle : (xs.map fun x => decB x.1).length ≤ 1000000 := by
      rw [ho, List.length_map]
      have := chunks_len s s.size
      omega
    have hne : xs.map (fun x => decB x.1) ≠ [] := by
      rw [ho, chunks_pos s hpos]; simp
    generalize xs.map (fun x => decB x.1) = l at hv hdg hle hne
    cases l with
    | nil => exact absurd rfl hne
    | cons d o =>
      simp only [List.length_cons] at hle
      refine SafeK.run (k := (rfs K52 0).2) hmix G3_ok [2, 3, 5, 6, 16, 17, 19, 20] 400 (T := Tree.ex (fun (u : List Nat) => List.length u = List.length o + (1 : Nat) ∧ (0 : Nat) + (List.length o + (1 : Nat)) ≤ List.length o + (1 : Nat) ∧ List.length o + (1 : Nat) < (4611686018427387904 : Nat) ∧ eqG (List.length o + (1 : Nat)) (1 : Nat) (natG IntKind.u32 (d :: o)) (natG IntKind.u32 u) ∧ dig (List.take (List.length o + (1 : Nat)) (List.drop (0 : Nat) u))) fun (n : List Nat) => Tree.all (fun (x : Nat) => x = val (List.take (List.length o + (1 : Nat)) (List.drop (0 : Nat) n))) fun (n : Nat) => Tree.leaf (Leaf2.ret [AV.agg [AV.bool neg, AV.osl (4 : Nat) (1 : Nat) (0 : Nat) (List.length (canon n))]] [Blk.box [AV.bool neg, AV.osl (4 : Nat) (1 : Nat) (0 : Nat) (List.length (canon n))], Blk.box [AV.bool neg, AV.osl (4 : Nat) (1 : Nat) (0 : Nat) (List.length (canon n))], Blk.box [AV.str b], Blk.arr (1 : Nat) (1 : Nat) (natG IntKind.u32 [d]), Blk.arr (List.length o + (1 : Nat)) (1 : Nat) (natG IntKind.u32 (d :: o))])) (by kernel_rfl) ?_
      simp only [Tree.holds, Leafs2]
      have htk : (List.take (o.length + 1) (List.drop 0 (d :: o))) = d :: o := by simp
      refine ⟨d :: o, ⟨rfl, by omega, by omega, eqG_refl _ _ _, by rw [htk]; exact hdg⟩, ⟨_, rfl⟩, ?_⟩
      intro X hX
      have hX : X = numD b := by rw [htk, hv] at hX; exact hX
      subst hX
      refine RetR.out0 hq (fun h => by cases h) ?_
      simp only [resV, exp2, exp1, List.map_cons, List.map_nil, exp0, ren0, posIn, frz1, seqOf, List.getElem?_cons_zero, List.getElem?_cons_succ, if_true, eqA2, eqA, eqL0, eqA0, magS, natS, true_and, and_true]
      exact eqG_window (u := d :: o) (off := 0) (n := o.length + 1) (by simpa using hdg) (by simpa using hv)
theorem read_ok : CtrOK Tryd.prog 52 readC := by
  refine fn_ctrP (fn := Tryd.f52) (c := Tryd.f52.body.getD .skip) rfl rfl rfl fun p hp O w0 Q hq => ?_
  obtain ⟨neg, b⟩ := p
  obtain ⟨hb, hb0, hbl⟩ := hp
  replace hq := hq _ rfl
  simp only at hb hb0 hbl hq
  obtain ⟨s, hs⟩ : ∃ s, sgn neg b = s := ⟨_, rfl⟩
  simp only [hs]
  refine SafeK.run (k := K52) hmix G3_ok [2, 3, 5, 6, 16, 17, 19, 20] 400 (T := Tree.side ((0 : Int) ≤ (0 : Int) ∧ (0 : Int) < (↑(List.length s) : Int)) (Tree.ite (decide ((↑(UInt8.toNat (List.getD s (0 : Nat) (0 : UInt8))) : Int) = (45 : Int))) (Tree.side ((0 : Int) ≤ (1 : Int) ∧ (1 : Int) ≤ (↑(List.length s) : Int)) (Tree.ex (fun (x : List UInt8) => eqL [AV.str (List.drop (1 : Nat) (List.take (List.length s) s))] [AV.str x] ∧ eqH [] [] ∧ (0 : Nat) = (0 : Nat) ∧ True) fun (n : List UInt8) => Tree.all (fun (x : Unit) => True) fun (n_1 : Unit) => Tree.leaf (Leaf2.range (Prod.fst (rfs K52 (0 : Nat))) (Prod.snd (rfs K52 (0 : Nat))) [((2 : Nat), AV.ptr (0 : Nat) (0 : Nat)), ((3 : Nat), AV.ptr (1 : Nat) (0 : Nat)), ((5 : Nat), AV.undef), ((6 : Nat), AV.undef), ((16 : Nat), AV.fn (67 : Nat) [] [AV.ptr (2 : Nat) (0 : Nat)]), ((17 : Nat), AV.undef), ((19 : Nat), AV.undef), ((20 : Nat), AV.undef)] [Blk.box [AV.bool false, AV.nils], Blk.box [AV.bool true, AV.nils], Blk.box [AV.str n]]))) (Tree.ex (fun (x : List UInt8) => eqL [AV.str s] [AV.str x] ∧ eqH [] [] ∧ (0 : Nat) = (0 : Nat) ∧ True) fun (n : List UInt8) => Tree.all (fun (x : Unit) => True) fun (n_1 : Unit) => Tree.leaf (Leaf2.range (Prod.fst (rfs K52 (0 : Nat))) (Prod.snd (rfs K52 (0 : Nat))) [((2 : Nat), AV.ptr (0 : Nat) (0 : Nat)), ((3 : Nat), AV.ptr (1 : Nat) (0 : Nat)), ((5 : Nat), AV.undef), ((6 : Nat), AV.undef), ((16 : Nat), AV.fn (67 : Nat) [] [AV.ptr (2 : Nat) (0 : Nat)]), ((17 : Nat), AV.undef), ((19 : Nat), AV.undef), ((20 : Nat), AV.undef)] [Blk.box [AV.bool false, AV.nils], Blk.box [AV.bool false, AV.nils], Blk.box [AV.str n]])))) (by kernel_rfl) ?_
  subst hs
  have hmain := read_loop (O := O) (w0 := w0) neg b hb hb0 hbl hq
  obtain ⟨c, b', rfl⟩ := List.exists_cons_of_ne_nil hb0
  have hc := hb c (by simp)
  simp only [Tree.holds, Leafs2]
  cases neg with
  | true =>
    simp only [sgn, if_true]
    refine ⟨by simp; omega, fun _ => ⟨fun _ => ⟨by simp; omega, fun _ => ?_⟩, fun h => by simp at h⟩⟩
    refine ⟨c :: b', ⟨by simp, by simp, by simp⟩, ⟨(), trivial⟩, fun _ _ => hmain⟩
  | false =>
    simp only [sgn, Bool.false_eq_true, if_false]
    refine ⟨by simp, fun _ => ⟨fun h => ?_, fun _ => ?_⟩⟩
    · simp at h; omega
    · refine ⟨c :: b', ⟨by simp, by simp, by simp⟩, ⟨(), trivial⟩, fun _ _ => hmain⟩
end Go.Proofs.Tryd
end

/- The integers' texts: writing. -/
section
set_option linter.unusedVariables false
set_option linter.unusedSimpArgs false
set_option maxRecDepth 100000
open Go Go.Sx Go.Proofs Go.Nov
namespace Go.Proofs.Tryd
attribute [local simp] eqKV eqA eqA0 eqH eqB eqL eqL0
noncomputable def K59 : List Go.Sx.Item := [.code (Tryd.f59.body.getD .skip)]
noncomputable def K47 : List Go.Sx.Item := [.code (Tryd.f47.body.getD .skip)]

/-- The first i and the last i of n numbers exchanged. -/
def revTo (l : List Nat) (n i : Nat) : List Nat := (List.range l.length).map fun p => if p < n ∧ (p < i ∨ n - i ≤ p) then l.getD (n - 1 - p) 0 else l.getD p 0
theorem revTo_len (l : List Nat) (n i : Nat) : (revTo l n i).length = l.length := by simp [revTo]
theorem revTo_get {l : List Nat} {n i p : Nat} (h : p < l.length) : (revTo l n i).getD p 0 = if p < n ∧ (p < i ∨ n - i ≤ p) then l.getD (n - 1 - p) 0 else l.getD p 0 := by
  simp [revTo, List.getD, h]
theorem revTo_zero (l : List Nat) (n : Nat) : revTo l n 0 = l := by
  apply List.ext_getElem (by simp [revTo])
  intro p h1 h2
  simp only [revTo, List.getElem_map, List.getElem_range]
  rw [if_neg (by omega)]; simp [h2]
theorem revTo_step {l : List Nat} {n i : Nat} (hn : n ≤ l.length) (hi2 : i < n - 1 - i) : ((revTo l n i).set i ((revTo l n i).getD (n - 1 - i) 0)).set (n - 1 - i) ((revTo l n i).getD i 0) = revTo l n (i + 1) := by
  rw [revTo_get (by omega), revTo_get (by omega), if_neg (by omega), if_neg (by omega)]
  apply List.ext_getElem (by simp [revTo])
  intro p h1 h2
  rw [revTo_len] at h2
  simp only [List.getElem_set, revTo, List.getElem_map, List.getElem_range]
  by_cases ha : n - 1 - i = p
  · rw [if_pos ha, if_pos (by omega)]; congr 1; omega
  · rw [if_neg ha]
    by_cases hb : i = p
    · subst hb; rw [if_pos rfl, if_pos (by omega)]
    · rw [if_neg hb]
      by_cases hc : p < n ∧ (p < i ∨ n - i ≤ p)
      · rw [if_pos hc, if_pos (by omega)]
      · rw [if_neg hc, if_neg (by omega)]
theorem revTo_all {l : List Nat} {n i : Nat} (hn : n ≤ l.length) (hi2 : n - 1 - i ≤ i) : revTo l n i = (l.take n).reverse ++ l.drop n := by
  apply List.ext_getElem (by simp [revTo]; omega)
  intro p h1 h2
  rw [revTo_len] at h1
  simp only [revTo, List.getElem_map, List.getElem_range]
  have hl : (l.take n).reverse.length = n := by simp; omega
  by_cases ha : p < n
  · rw [List.getElem_append_left (by omega), List.getElem_reverse, List.getElem_take]
    have e : (l.take n).length - 1 - p = n - 1 - p := by simp; omega
    simp only [e]
    by_cases hc : p < i ∨ n - i ≤ p
    · rw [if_pos ⟨ha, hc⟩]; simp [show n - 1 - p < l.length by omega]
    · rw [if_neg (fun h => hc h.2)]
      have : n - 1 - p = p := by omega
      simp [this, h1]
  · rw [if_neg (fun h => ha h.1), List.getElem_append_right (by omega)]
    simp only [hl, List.getElem_drop]
    have : n + (p - n) = p := by omega
    simp [this, h1]
def reverseC : Ctr := ctrT false false (fun p : List Nat × Nat => [.osl 0 1 0 p.2]) (fun p => [.arr p.1.length 1 (natG .u8 p.1)]) (fun p => p.2 ≤ p.1.length ∧ p.1.length < 2 ^ 62) (fun _ (_ : Unit) => True) (fun p _ => (.tup [], [.arr p.1.length 1 (natG .u8 ((p.1.take p.2).reverse ++ p.1.drop p.2))]))
def SV (n i : Nat) : KV := [(0, .osl 0 1 0 n), (2, .int .i64 (i : Int)), (3, .int .i64 ((n : Int) - 1 - i))]

theorem reverse_ok : CtrOK Tryd.prog 59 reverseC := by
  refine fn_ctrT (fn := Tryd.f59) (c := Tryd.f59.body.getD .skip) rfl rfl rfl (fun h => by cases h) fun p hp O w0 σ0 Q hl0 hq => ?_
  obtain ⟨l, n⟩ := p
  obtain ⟨hn, hl⟩ := hp
  replace hq := hq () trivial
  simp only at hn hl hq
  refine SafeK.run (k := K59) hmix noG_ok [0, 2, 3] 400 (T := Tree.side (inR IntKind.i64 ((↑n : Int) - (1 : Int))) (Tree.leaf (Leaf2.loop (Prod.fst (lps K59 (0 : Nat))) (Prod.snd (lps K59 (0 : Nat))) [((0 : Nat), AV.osl (0 : Nat) (1 : Nat) (0 : Nat) n), ((2 : Nat), AV.int IntKind.i64 (0 : Int)), ((3 : Nat), AV.int IntKind.i64 ((↑n : Int) - (1 : Int)))] [Blk.arr (List.length l) (1 : Nat) (natG IntKind.u8 l)]))) (by kernel_rfl) ?_
  simp only [Tree.holds, Leafs2, inR, lo, hi]
  refine ⟨by omega, fun _ => ?_⟩
  refine SafeK.loop (ι := {i : Nat // i ≤ n}) (fun i => SV n i.1) (fun i => [.arr l.length 1 (natG .u8 (revTo l n i.1))]) (fun i => n - i.1) ⟨0, Nat.zero_le _⟩ 0 ?_ ?_ (by kernel_rfl)
  · exact ⟨by simp [SV], by simp [revTo_zero, eqG_refl], by kernel_rfl, Nat.le_refl _⟩
  · rintro ⟨i, hin⟩
    obtain ⟨u, hu⟩ : ∃ u, revTo l n i = u := ⟨_, rfl⟩
    have hul : u.length = l.length := by rw [← hu, revTo_len]
    simp only [hu, ← hul]
    refine SafeK.run (k := inside K59 0) hmix noG_ok [0, 2, 3] 400 (T := Tree.ite (decide ((↑i : Int) < (↑n : Int) - (1 : Int) - (↑i : Int))) (Tree.side ((0 : Int) ≤ (↑n : Int) - (1 : Int) - (↑i : Int) ∧ (↑n : Int) - (1 : Int) - (↑i : Int) < (↑n : Int)) (Tree.side ((0 : Int) ≤ (↑i : Int) ∧ (↑i : Int) < (↑n : Int)) (Tree.side ((0 : Int) ≤ (↑i : Int) ∧ (↑i : Int) < (↑n : Int)) (Tree.side ((0 : Int) ≤ (↑n : Int) - (1 : Int) - (↑i : Int) ∧ (↑n : Int) - (1 : Int) - (↑i : Int) < (↑n : Int)) (Tree.side (inR IntKind.i64 ((↑i : Int) + (1 : Int))) (Tree.side (inR IntKind.i64 ((↑n : Int) - (1 : Int) - (↑i : Int) - (1 : Int))) (Tree.leaf (Leaf2.back (0 : Nat) [((0 : Nat), AV.osl (0 : Nat) (1 : Nat) (0 : Nat) n), ((2 : Nat), AV.int IntKind.i64 ((↑i : Int) + (1 : Int))), ((3 : Nat), AV.int IntKind.i64 ((↑n : Int) - (1 : Int) - (↑i : Int) - (1 : Int)))] [Blk.arr (List.length u) (1 : Nat) (updG (updG (natG IntKind.u8 u) ((0 : Nat) + Int.toNat (↑i : Int)) (0 : Nat) [AV.int IntKind.u8 (↑(List.getD u ((0 : Nat) + Int.toNat ((↑n : Int) - (1 : Int) - (↑i : Int))) (0 : Nat)) : Int)]) ((0 : Nat) + Int.toNat ((↑n : Int) - (1 : Int) - (↑i : Int))) (0 : Nat) [AV.int IntKind.u8 (↑(List.getD u ((0 : Nat) + Int.toNat (↑i : Int)) (0 : Nat)) : Int)])])))))))) (Tree.leaf (Leaf2.ret [] [Blk.arr (List.length u) (1 : Nat) (natG IntKind.u8 u)]))) (by kernel_rfl) ?_
    simp only [Tree.holds, Leafs2, inR, lo, hi, Int.toNat_natCast]
    refine ⟨fun hlt => ?_, fun hge => ?_⟩
    · have hlt : i < n - 1 - i := by simp at hlt; omega
      have ej : ((n : Int) - 1 - i).toNat = n - 1 - i := by omega
      rw [ej]
      iterate 6 refine ⟨by omega, fun _ => ?_⟩
      rw [if_pos trivial]
      have hs := revTo_step (l := l) hn hlt
      rw [hu] at hs
      refine ⟨⟨i + 1, by omega⟩, by show n - (i + 1) < n - i; omega, by simp [SV]; omega, ?_, by kernel_rfl, Nat.le_refl _⟩
      rw [← hs]
      refine ⟨⟨rfl, rfl, ?_⟩, trivial⟩
      have h1 := eqG_set (k := .u8) (l := u) (v := (u.getD (n - 1 - i) 0 : Nat)) (i := i) (by omega) (by omega)
      have h2 := eqG_set (k := .u8) (l := u.set i (u.getD (n - 1 - i) 0)) (v := (u.getD i 0 : Nat)) (i := n - 1 - i) (by omega) (by simp; omega)
      simp only [List.length_set, Int.toNat_natCast] at h1 h2
      refine eqG_trans ?_ h2
      intro p o hp ho
      have := h1 p o hp ho
      simp only [updG, Nat.zero_add] at this ⊢
      split
      · rfl
      · exact this
    · have hge : n - 1 - i ≤ i := by simp at hge; omega
      have hr := revTo_all (l := l) hn hge
      rw [hu] at hr
      refine ⟨[0], rfl, by simp, by simp, by simp [reverseC, ctrT], .tup [], _, by simp [resV, exp2, eqA2, eqL1], ?_, rfl, hq⟩
      simp [expH, expB, hr, eqG_refl]
      omega
def writeB (neg : Bool) (x : Nat) : Blk := .box [.bool neg, magS x]
def SW (x i n : Nat) : KV := [(1, .ptr 0 0), (4, .osl 1 1 0 n), (6, .undef), (12, magS x), (13, .int .i64 ((canon x).length : Int)), (14, .int .i64 (i : Int)), (18, .undef)]
def SW2 (x i n g k : Nat) : KV := [(1, .ptr 0 0), (4, .osl 1 1 0 n), (6, .int .u32 (g : Int)), (12, magS x), (13, .int .i64 ((canon x).length : Int)), (14, .int .i64 (i : Int)), (18, .int .i64 (k : Int))]
def G4 : Nat → Option Ctr := fun f => if f = 59 then some (reverseC) else none
theorem G4_ok : ∀ g c, G4 g = some c → CtrOK Tryd.prog g c := by
  intro g c h
  unfold G4 at h
  by_cases hg : g = 59
  · subst hg
    rw [if_pos rfl] at h
    cases h
    exact reverse_ok
  rw [if_neg hg] at h
  clear hg
  cases h


theorem bytesG_nat (k : IntKind) (l : List Nat) (n : Nat) (hn : n ≤ l.length) : bytesG n (viewG (natG k l) 0) = (l.take n).map UInt8.ofNat := by
  apply List.ext_getElem (by simp [bytesG]; omega)
  intro j h1 h2
  have hj : j < n := by simpa [bytesG] using h1
  simp [bytesG, viewG, natG, Sx.byteOf, show j < l.length by omega]
def wb (x i : Nat) : List Nat := (decs (9 * i) (val ((canon x).take i))).map (48 + ·)
theorem wb_len (x i : Nat) : (wb x i).length = 9 * i := by simp [wb, decs_len]
theorem pow_B (i : Nat) : B ^ i = 10 ^ (9 * i) := by rw [Nat.pow_mul]
theorem wb_step {x i : Nat} (h : i < (canon x).length) : wb x i ++ (decs 9 ((canon x).getD i 0)).map (48 + ·) = wb x (i + 1) := by
  have h1 := val_lt (dig_take (dig_canon x) i)
  rw [List.length_take, Nat.min_eq_left (by omega), pow_B] at h1
  simp only [wb]
  rw [← List.map_append, ← decs_append _ _ _ _ h1, val_take_succ, pow_B]
  rfl
theorem wb_all (x : Nat) : wb x (canon x).length = (dec x).map (48 + ·) ++ List.replicate (9 * (canon x).length - (dec x).length) 48 := by
  have h : x < 10 ^ (9 * (canon x).length) := by
    have := val_lt (dig_canon x)
    rwa [val_canon, pow_B] at this
  simp only [wb, List.take_length, val_canon, decs_pad h, Ten.padN, List.map_append, List.map_replicate, dec]
def writeC : Ctr := ctrP true (fun p : Bool × Nat => [.agg [.bool p.1, magS p.2]]) (fun p => (canon p.2).length < 1000000) (fun p r => r = wr p.1 p.2) (fun _ r => (.tup [.str r.1, .int .i64 r.2], []))
theorem write_end {O : Nat → Prop} {w0 : World} {Q : AV × Heap → Prop} {Hs : Nat → KV → Heap → Prop} (neg : Bool) (x : Nat) (hx : (canon x).length < 1000000) (hx0 : x ≠ 0) (hq : Q (.tup [.str (wr neg x).1, .int .i64 (wr neg x).2], [])) (b : List Nat) (hb : b = wb x (canon x).length) :
    SafeK Tryd.prog Tryd.f47 O 0 w0 [] Hs (RetR writeC 0 Q) (.code (.loop (lps (inside K47 0) 1).1) :: (lps (inside K47 0) 1).2) (mk Tryd.f47.ntmps (SW x (canon x).length b.length) [writeB neg x, .arr b.length 1 (natG .u8 b)]) := by
  have hdl := dec_pos hx0
  have hle : (dec x).length ≤ 9 * (canon x).length := by
    have := val_lt (dig_canon x)
    rw [val_canon, pow_B] at this
    exact dec_len_le this
  have hbl : b.length = 9 * (canon x).length := by rw [hb, wb_len]
  have hget : ∀ p, p < b.length → b.getD p 0 = 48 + (dec x).getD p 0 := by
    intro p hp
    rw [hb, wb_all]
    by_cases h : p < (dec x).length
    · rw [getD_app_l (by simpa using h), getD_mapd (z := 0) h]
    · rw [getD_app_r (by simpa using Nat.le_of_not_lt h), getD_rep (by simp; omega), getD_out (Nat.le_of_not_lt h)]
  have htake : b.take (dec x).length = (dec x).map (48 + ·) := by
    rw [hb, wb_all, List.take_append_of_le_length (by simp), List.take_of_length_le (by simp)]
  refine SafeK.loop (ι := {n : Nat // (dec x).length ≤ n ∧ n ≤ b.length}) (fun n => SW x (canon x).length n.1) (fun _ => [writeB neg x, .arr b.length 1 (natG .u8 b)]) (fun n => n.1) ⟨b.length, by omega, Nat.le_refl _⟩ 0 ?_ ?_ (by kernel_rfl)
  · exact ⟨by simp [SW, magS, natS, eqG_refl], by simp [writeB, magS, natS, eqG_refl], by kernel_rfl, Nat.zero_le _⟩
  · rintro ⟨n, hn1, hn2⟩
    obtain ⟨L, hL⟩ : ∃ L, (canon x).length = L := ⟨_, rfl⟩
    simp only [hL]
    refine SafeK.run (k := inside (inside K47 0) 1) hmix G4_ok [1, 4, 6, 12, 13, 14, 18] 400 (T := Tree.side (inR IntKind.i64 ((↑n : Int) - (1 : Int))) (Tree.side ((0 : Int) ≤ (↑n : Int) - (1 : Int) ∧ (↑n : Int) - (1 : Int) < (↑n : Int)) (Tree.ite (decide ((↑(List.getD b ((0 : Nat) + Int.toNat ((↑n : Int) - (1 : Int))) (0 : Nat)) : Int) = (48 : Int))) (Tree.side (inR IntKind.i64 ((↑n : Int) - (1 : Int))) (Tree.side ((0 : Int) ≤ (↑n : Int) - (1 : Int) ∧ (↑n : Int) - (1 : Int) ≤ (↑n : Int)) (Tree.leaf (Leaf2.back (0 : Nat) [((1 : Nat), AV.ptr (0 : Nat) (0 : Nat)), ((4 : Nat), AV.osl (1 : Nat) (1 : Nat) (0 : Nat) (Int.toNat ((↑n : Int) - (1 : Int)) - (0 : Nat))), ((6 : Nat), AV.undef), ((12 : Nat), AV.sl (List.length (canon x)) (1 : Nat) (natG IntKind.u32 (canon x))), ((13 : Nat), AV.int IntKind.i64 (↑(List.length (canon x)) : Int)), ((14 : Nat), AV.int IntKind.i64 (↑L : Int)), ((18 : Nat), AV.undef)] [Blk.box [AV.bool neg, AV.sl (List.length (canon x)) (1 : Nat) (natG IntKind.u32 (canon x))], Blk.arr (List.length b) (1 : Nat) (natG IntKind.u8 b)])))) (Tree.ite (decide ((1000 : Int) < (↑n : Int))) (Tree.leaf (Leaf2.ret [AV.str (Array.toList #[]), AV.int IntKind.i64 (14 : Int)] [Blk.box [AV.bool neg, AV.sl (List.length (canon x)) (1 : Nat) (natG IntKind.u32 (canon x))], Blk.arr (List.length b) (1 : Nat) (natG IntKind.u8 b)])) (Tree.ite neg (Tree.side ((0 : Nat) = (0 : Nat) ∧ n ≤ List.length b ∧ (n + (1 : Nat)) * (1 : Nat) ≤ (140737488355328 : Nat)) (Tree.ex (fun (x : List Nat × Nat) => eqL [AV.osl (0 : Nat) (1 : Nat) (0 : Nat) (n + (1 : Nat))] [AV.osl (0 : Nat) (1 : Nat) (0 : Nat) (Prod.snd x)] ∧ eqH [Blk.arr (n + (1 : Nat)) (1 : Nat) (appG n (natG IntKind.u8 b) (viewG (listG (1 : Nat) [AV.int IntKind.u8 (45 : Int)]) (0 : Nat)))] [Blk.arr (List.length (Prod.fst x)) (1 : Nat) (natG IntKind.u8 (Prod.fst x))] ∧ (1 : Nat) = (1 : Nat) ∧ Prod.snd x ≤ List.length (Prod.fst x) ∧ List.length (Prod.fst x) < (4611686018427387904 : Nat)) fun (n_1 : List Nat × Nat) => Tree.all (fun (x : Unit) => True) fun (n_2 : Unit) => Tree.side (∀ (j : Nat), j < n + (1 : Nat) → ∃ (b : UInt8), AV.int IntKind.u8 (↑(List.getD (List.reverse (List.take (Prod.snd n_1) (Prod.fst n_1)) ++ List.drop (Prod.snd n_1) (Prod.fst n_1)) ((0 : Nat) + j) (0 : Nat)) : Int) = AV.int IntKind.u8 (↑(UInt8.toNat b) : Int)) (Tree.leaf (Leaf2.ret [AV.str (bytesG (n + (1 : Nat)) (viewG (natG IntKind.u8 (List.reverse (List.take (Prod.snd n_1) (Prod.fst n_1)) ++ List.drop (Prod.snd n_1) (Prod.fst n_1))) (0 : Nat))), AV.int IntKind.i64 (0 : Int)] [Blk.box [AV.bool neg, AV.sl (List.length (canon x)) (1 : Nat) (natG IntKind.u32 (canon x))], Blk.arr (List.length (Prod.fst n_1)) (1 : Nat) (natG IntKind.u8 (List.reverse (List.take (Prod.snd n_1) (Prod.fst n_1)) ++ List.drop (Prod.snd n_1) (Prod.fst n_1))), Blk.arr (1 : Nat) (1 : Nat) (listG (1 : Nat) [AV.int IntKind.u8 (45 : Int)])])))) (Tree.ex (fun (x : List Nat × Nat) => eqL [AV.osl (0 : Nat) (1 : Nat) (0 : Nat) n] [AV.osl (0 : Nat) (1 : Nat) (0 : Nat) (Prod.snd x)] ∧ eqH [Blk.arr (List.length b) (1 : Nat) (natG IntKind.u8 b)] [Blk.arr (List.length (Prod.fst x)) (1 : Nat) (natG IntKind.u8 (Prod.fst x))] ∧ (1 : Nat) = (1 : Nat) ∧ Prod.snd x ≤ List.length (Prod.fst x) ∧ List.length (Prod.fst x) < (4611686018427387904 : Nat)) fun (n_1 : List Nat × Nat) => Tree.all (fun (x : Unit) => True) fun (n_2 : Unit) => Tree.side (∀ (j : Nat), j < n → ∃ (b : UInt8), AV.int IntKind.u8 (↑(List.getD (List.reverse (List.take (Prod.snd n_1) (Prod.fst n_1)) ++ List.drop (Prod.snd n_1) (Prod.fst n_1)) ((0 : Nat) + j) (0 : Nat)) : Int) = AV.int IntKind.u8 (↑(UInt8.toNat b) : Int)) (Tree.leaf (Leaf2.ret [AV.str (bytesG n (viewG (natG IntKind.u8 (List.reverse (List.take (Prod.snd n_1) (Prod.fst n_1)) ++ List.drop (Prod.snd n_1) (Prod.fst n_1))) (0 : Nat))), AV.int IntKind.i64 (0 : Int)] [Blk.box [AV.bool neg, AV.sl (List.length (canon x)) (1 : Nat) (natG IntKind.u32 (canon x))], Blk.arr (List.length (Prod.fst n_1)) (1 : Nat) (natG IntKind.u8 (List.reverse (List.take (Prod.snd n_1) (Prod.fst n_1)) ++ List.drop (Prod.snd n_1) (Prod.fst n_1)))])))))))) (by kernel_rfl) ?_
    have e1 : ((n : Int) - 1).toNat = n - 1 := by omega
    have e2 : 0 + (n - 1) = n - 1 := by omega
    have e3 : n - 1 - 0 = n - 1 := by omega
    simp only [Tree.holds, Leafs2, inR, lo, hi, e1, e2, e3]
    have hg := hget (n - 1) (by omega)
    rw [hg]
    iterate 2 refine ⟨by omega, fun _ => ?_⟩
    refine ⟨fun hz => ?_, fun hnz => ⟨fun hbig => ?_, fun hsm => ?_⟩⟩
    · have hz : (dec x).getD (n - 1) 0 = 0 := by simp at hz ⊢; omega
      have hne : n ≠ (dec x).length := by
        rintro rfl
        exact dec_top hdl hz
      iterate 2 refine ⟨by omega, fun _ => ?_⟩
      rw [if_pos trivial]
      exact ⟨⟨n - 1, by omega, by omega⟩, by show n - 1 < n; omega, by simp [SW, magS, natS, eqG_refl], by simp [writeB, magS, natS, eqG_refl], by kernel_rfl, Nat.zero_le _⟩
    · have hn : n = (dec x).length := by
        rcases Nat.lt_or_ge (dec x).length n with h | h
        · have : (dec x).getD (n - 1) 0 = 0 := by simp [List.getD, List.getElem?_eq_none (show (dec x).length ≤ n - 1 by omega)]
          rw [this] at hnz; simp at hnz
        · omega
      subst hn
      have hbig : 1000 < (dec x).length := by simp at hbig; omega
      simp only [wr, if_neg hx0, if_pos hbig] at hq
      exact RetR.scal hq rfl rfl
    · have hn : n = (dec x).length := by
        rcases Nat.lt_or_ge (dec x).length n with h | h
        · have : (dec x).getD (n - 1) 0 = 0 := by simp [List.getD, List.getElem?_eq_none (show (dec x).length ≤ n - 1 by omega)]
          rw [this] at hnz; simp at hnz
        · omega
      subst hn
      have hsm : ¬ 1000 < (dec x).length := by simp at hsm; omega
      simp only [wr, if_neg hx0, if_neg hsm] at hq
      have hbyte : ∀ (l : List Nat) (k : Nat), (∀ d ∈ l, d < 256) → ∀ j, j < k → ∃ c : UInt8, AV.int .u8 ((l.getD (0 + j) 0 : Nat) : Int) = .int .u8 (c.toNat : Int) := by
        intro l k hl j hj
        rw [Nat.zero_add]
        have : l.getD j 0 < 256 := by
          by_cases h : j < l.length
          · have := hl l[j] (List.getElem_mem h)
            simpa [List.getD, h] using this
          · simp [List.getD, List.getElem?_eq_none (Nat.le_of_not_lt h)]
        refine ⟨UInt8.ofNat (l.getD j 0), ?_⟩
        simp only [AV.int.injEq, true_and]
        rw [UInt8.toNat_ofNat', Nat.mod_eq_of_lt this]
      have hb256 : ∀ d ∈ b, d < 256 := by
        intro d hd
        rw [hb, wb_all] at hd
        rcases List.mem_append.1 hd with hd | hd
        · obtain ⟨y, hy, rfl⟩ := List.mem_map.1 hd
          have := Ten.dig_canon x y hy
          simp only [Ten.B] at this
          omega
        · have := (List.mem_replicate.1 hd).2; omega
      have htx : ((b.take (dec x).length).reverse).map UInt8.ofNat = txt x := by
        rw [htake, txt, if_neg hx0, List.map_reverse, List.map_map]; rfl
      refine ⟨fun hneg => ?_, fun hneg => ?_⟩
      · subst hneg
        refine ⟨⟨trivial, hn2, by omega⟩, fun _ => ?_⟩
        have hal : (b.take (dec x).length ++ [45]).length = (dec x).length + 1 := by simp; omega
        refine ⟨(b.take (dec x).length ++ [45], (dec x).length + 1), ⟨by simp, ?_, by simp, by simp only [hal]; omega, by simp only [hal]; omega⟩, ⟨(), trivial⟩, fun _ _ => ⟨?_, fun _ => ?_⟩⟩
        · simp only [eqH, eqB, hal]
          refine ⟨⟨trivial, trivial, ?_⟩, trivial⟩
          intro j o hj ho
          have : o = 0 := by omega
          subst this
          simp only [appG, viewG, listG, natG]
          have hl : (b.take (dec x).length).length = (dec x).length := by simp; omega
          by_cases h : j < (dec x).length
          · rw [if_pos h, getD_app_l (by omega), getD_tk h]
          · have : j = (dec x).length := by omega
            subst this
            rw [if_neg (by omega), getD_app_r (by omega), hl, Nat.sub_self]
            rfl
        · refine hbyte _ _ ?_
          intro d hd
          simp only [List.mem_append, List.mem_reverse] at hd
          rcases hd with hd | hd
          · have := List.mem_of_mem_take hd
            rcases List.mem_append.1 this with h | h
            · exact hb256 d (List.mem_of_mem_take h)
            · simp at h; omega
          · have := List.mem_of_mem_drop hd
            rcases List.mem_append.1 this with h | h
            · exact hb256 d (List.mem_of_mem_take h)
            · simp at h; omega
        · refine RetR.scal hq rfl ?_
          simp only [resV]
          rw [bytesG_nat _ _ _ (by simp; omega)]
          have ht : List.take ((dec x).length + 1) (b.take (dec x).length ++ [45]) = b.take (dec x).length ++ [45] := List.take_of_length_le (by omega)
          rw [ht, List.take_append_of_le_length (by simp; omega), List.take_of_length_le (by simp; omega), List.reverse_append, List.map_append, htx]
          simp [sgn]
      · subst hneg
        refine ⟨(b, (dec x).length), ⟨by simp, by simp [eqG_refl], by simp, hn2, by simp only [hbl]; omega⟩, ⟨(), trivial⟩, fun _ _ => ⟨?_, fun _ => ?_⟩⟩
        · refine hbyte _ _ ?_
          intro d hd
          simp only [List.mem_append, List.mem_reverse] at hd
          rcases hd with hd | hd
          · exact hb256 d (List.mem_of_mem_take hd)
          · exact hb256 d (List.mem_of_mem_drop hd)
        · refine RetR.scal hq rfl ?_
          simp only [resV]
          have hrl : ((b.take (dec x).length).reverse).length = (dec x).length := by simp; omega
          rw [bytesG_nat _ _ _ (by rw [List.length_append, hrl]; omega), List.take_append_of_le_length (by omega), List.take_of_length_le (by omega), htx]
          simp [sgn]
theorem write_ok : CtrOK Tryd.prog 47 writeC := by
  refine fn_ctrP (fn := Tryd.f47) (c := Tryd.f47.body.getD .skip) rfl rfl rfl fun p hp O w0 Q hq => ?_
  obtain ⟨neg, x⟩ := p
  replace hq := hq _ rfl
  simp only at hp hq
  refine SafeK.run (k := K47) hmix G4_ok [1, 4, 6, 12, 13, 14, 18] 400 (T := Tree.ite (decide ((↑(List.length (canon x)) : Int) = (0 : Int))) (Tree.leaf (Leaf2.ret [AV.str (Array.toList #[(48 : UInt8)]), AV.int IntKind.i64 (0 : Int)] [Blk.box [AV.bool neg, AV.sl (List.length (canon x)) (1 : Nat) (natG IntKind.u32 (canon x))]])) (Tree.leaf (Leaf2.loop (Prod.fst (lps K47 (0 : Nat))) (Prod.snd (lps K47 (0 : Nat))) [((1 : Nat), AV.ptr (0 : Nat) (0 : Nat)), ((4 : Nat), AV.nils), ((6 : Nat), AV.undef), ((12 : Nat), AV.sl (List.length (canon x)) (1 : Nat) (natG IntKind.u32 (canon x))), ((13 : Nat), AV.int IntKind.i64 (↑(List.length (canon x)) : Int)), ((14 : Nat), AV.int IntKind.i64 (0 : Int)), ((18 : Nat), AV.undef)] [Blk.box [AV.bool neg, AV.sl (List.length (canon x)) (1 : Nat) (natG IntKind.u32 (canon x))]]))) (by kernel_rfl) ?_
  simp only [Tree.holds, Leafs2, inR, lo, hi]
  refine ⟨fun h0 => ?_, fun h0 => ?_⟩
  · have h0 : x = 0 := by
      rcases Nat.eq_zero_or_pos x with h | h
      · exact h
      · have := le_canon_length (x := x) (n := 0) (by simp; omega)
        simp at h0; rw [h0] at this; simp at this
    subst h0
    refine RetR.scal hq rfl ?_
    simp [resV, wr]
  · have hx0 : x ≠ 0 := by
      rintro rfl
      simp [canon_zero] at h0
    refine SafeK.bear 4 1 (natG .u8 []) (by kernel_rfl) (by decide +kernel) (by kernel_rfl) ?_
    refine SafeK.loop (ι := {i : Nat // i ≤ (canon x).length}) (fun i => SW x i.1 (wb x i.1).length) (fun i => [writeB neg x, .arr (wb x i.1).length 1 (natG .u8 (wb x i.1))]) (fun i => (canon x).length - i.1) ⟨0, Nat.zero_le _⟩ 0 ?_ ?_ (by kernel_rfl)
    · exact ⟨by simp [setKV, SW, magS, natS, eqG_refl, wb_len], by simp [writeB, magS, natS, eqG_refl, wb_len, eqG], by kernel_rfl, Nat.zero_le _⟩
    · rintro ⟨i, hil⟩
      obtain ⟨b, hb⟩ : ∃ b, wb x i = b := ⟨_, rfl⟩
      simp only [hb]
      refine SafeK.run (k := inside K47 0) hmix G4_ok [1, 4, 6, 12, 13, 14, 18] 400 (T := Tree.ite (decide ((↑i : Int) < (↑(List.length (canon x)) : Int))) (Tree.side ((0 : Int) ≤ (↑i : Int) ∧ (↑i : Int) < (↑(List.length (canon x)) : Int)) (Tree.leaf (Leaf2.loop (Prod.fst (lps (inside K47 (0 : Nat)) (0 : Nat))) (Prod.snd (lps (inside K47 (0 : Nat)) (0 : Nat))) [((1 : Nat), AV.ptr (0 : Nat) (0 : Nat)), ((4 : Nat), AV.osl (1 : Nat) (1 : Nat) (0 : Nat) (List.length b)), ((6 : Nat), AV.int IntKind.u32 (↑(List.getD (canon x) (Int.toNat (↑i : Int)) (0 : Nat)) : Int)), ((12 : Nat), AV.sl (List.length (canon x)) (1 : Nat) (natG IntKind.u32 (canon x))), ((13 : Nat), AV.int IntKind.i64 (↑(List.length (canon x)) : Int)), ((14 : Nat), AV.int IntKind.i64 (↑i : Int)), ((18 : Nat), AV.int IntKind.i64 (0 : Int))] [Blk.box [AV.bool neg, AV.sl (List.length (canon x)) (1 : Nat) (natG IntKind.u32 (canon x))], Blk.arr (List.length b) (1 : Nat) (natG IntKind.u8 b)]))) (Tree.leaf (Leaf2.loop (Prod.fst (lps (inside K47 (0 : Nat)) (1 : Nat))) (Prod.snd (lps (inside K47 (0 : Nat)) (1 : Nat))) [((1 : Nat), AV.ptr (0 : Nat) (0 : Nat)), ((4 : Nat), AV.osl (1 : Nat) (1 : Nat) (0 : Nat) (List.length b)), ((6 : Nat), AV.undef), ((12 : Nat), AV.sl (List.length (canon x)) (1 : Nat) (natG IntKind.u32 (canon x))), ((13 : Nat), AV.int IntKind.i64 (↑(List.length (canon x)) : Int)), ((14 : Nat), AV.int IntKind.i64 (↑i : Int)), ((18 : Nat), AV.undef)] [Blk.box [AV.bool neg, AV.sl (List.length (canon x)) (1 : Nat) (natG IntKind.u32 (canon x))], Blk.arr (List.length b) (1 : Nat) (natG IntKind.u8 b)]))) (by kernel_rfl) ?_
      simp only [Tree.holds, Leafs2, inR, lo, hi, Int.toNat_natCast]
      refine ⟨fun hlt => ⟨by simp at hlt; omega, fun _ => ?_⟩, fun hge => ?_⟩
      · have hlt : i < (canon x).length := by simp at hlt; omega
        obtain ⟨g, hg⟩ : ∃ g, (canon x).getD i 0 = g := ⟨_, rfl⟩
        have hgB : g < 1000000000 := hg ▸ getD_lt (dig_canon x) i
        have hstep := wb_step hlt
        have hbl : b.length = 9 * i := by rw [← hb, wb_len]
        rw [hb, hg] at hstep
        rw [hg]
        refine SafeK.loop (ι := {k : Nat // k ≤ 9}) (fun k => SW2 x i (b ++ (decs k.1 g).map (48 + ·)).length (g / 10 ^ k.1) k.1) (fun k => [writeB neg x, .arr (b ++ (decs k.1 g).map (48 + ·)).length 1 (natG .u8 (b ++ (decs k.1 g).map (48 + ·)))]) (fun k => 9 - k.1) ⟨0, Nat.zero_le _⟩ 1 ?_ ?_ (by kernel_rfl)
        · exact ⟨by simp [SW2, magS, natS, eqG_refl, decs], by simp [writeB, magS, natS, eqG_refl, decs], by kernel_rfl, Nat.zero_le _⟩
        · rintro ⟨k, hk⟩
          obtain ⟨c, hc⟩ : ∃ c, b ++ (decs k g).map (48 + ·) = c := ⟨_, rfl⟩
          obtain ⟨q, hqv⟩ : ∃ q, g / 10 ^ k = q := ⟨_, rfl⟩
          have hqB : q < 1000000000 := by rw [← hqv]; exact Nat.lt_of_le_of_lt (Nat.div_le_self _ _) hgB
          have hcl : c.length = 9 * i + k := by rw [← hc]; simp [decs_len, hbl]
          have hnext : b ++ (decs (k + 1) g).map (48 + ·) = c ++ [48 + q % 10] := by
            rw [decs_snoc, List.map_append, ← List.append_assoc, hc, hqv]; rfl
          have hqn : g / 10 ^ (k + 1) = q / 10 := by rw [Nat.pow_succ, ← Nat.div_div_eq_div_mul, hqv]
          simp only [hc, hqv]
          refine SafeK.run (k := inside (inside K47 0) 0) hmix G4_ok [1, 4, 6, 12, 13, 14, 18] 400 (T := Tree.ite (decide ((↑k : Int) < (9 : Int))) (Tree.side ((10 : Int) ≠ (0 : Int)) (Tree.side (inR IntKind.u32 ((48 : Int) + Int.tmod (↑q : Int) (10 : Int))) (Tree.side (inR IntKind.u8 ((48 : Int) + Int.tmod (↑q : Int) (10 : Int))) (Tree.side ((0 : Nat) = (0 : Nat) ∧ List.length c ≤ List.length c ∧ (List.length c + (1 : Nat)) * (1 : Nat) ≤ (140737488355328 : Nat)) (Tree.side ((10 : Int) ≠ (0 : Int) ∧ inR IntKind.u32 (Int.tdiv (↑q : Int) (10 : Int))) (Tree.side (inR IntKind.i64 ((↑k : Int) + (1 : Int))) (Tree.leaf (Leaf2.back (1 : Nat) [((1 : Nat), AV.ptr (0 : Nat) (0 : Nat)), ((4 : Nat), AV.osl (1 : Nat) (1 : Nat) (0 : Nat) (List.length c + (1 : Nat))), ((6 : Nat), AV.int IntKind.u32 (Int.tdiv (↑q : Int) (10 : Int))), ((12 : Nat), AV.sl (List.length (canon x)) (1 : Nat) (natG IntKind.u32 (canon x))), ((13 : Nat), AV.int IntKind.i64 (↑(List.length (canon x)) : Int)), ((14 : Nat), AV.int IntKind.i64 (↑i : Int)), ((18 : Nat), AV.int IntKind.i64 ((↑k : Int) + (1 : Int)))] [Blk.box [AV.bool neg, AV.sl (List.length (canon x)) (1 : Nat) (natG IntKind.u32 (canon x))], Blk.arr (List.length c + (1 : Nat)) (1 : Nat) (appG (List.length c) (natG IntKind.u8 c) (viewG (listG (1 : Nat) [AV.int IntKind.u8 ((48 : Int) + Int.tmod (↑q : Int) (10 : Int))]) (0 : Nat))), Blk.arr (1 : Nat) (1 : Nat) (listG (1 : Nat) [AV.int IntKind.u8 ((48 : Int) + Int.tmod (↑q : Int) (10 : Int))])])))))))) (Tree.side (inR IntKind.i64 ((↑i : Int) + (1 : Int))) (Tree.leaf (Leaf2.back (0 : Nat) [((1 : Nat), AV.ptr (0 : Nat) (0 : Nat)), ((4 : Nat), AV.osl (1 : Nat) (1 : Nat) (0 : Nat) (List.length c)), ((6 : Nat), AV.int IntKind.u32 (↑q : Int)), ((12 : Nat), AV.sl (List.length (canon x)) (1 : Nat) (natG IntKind.u32 (canon x))), ((13 : Nat), AV.int IntKind.i64 (↑(List.length (canon x)) : Int)), ((14 : Nat), AV.int IntKind.i64 ((↑i : Int) + (1 : Int))), ((18 : Nat), AV.int IntKind.i64 (↑k : Int))] [Blk.box [AV.bool neg, AV.sl (List.length (canon x)) (1 : Nat) (natG IntKind.u32 (canon x))], Blk.arr (List.length c) (1 : Nat) (natG IntKind.u8 c)])))) (by kernel_rfl) ?_
          have e10 : (10 : Int) = ((10 : Nat) : Int) := rfl
          have em : Int.tmod (q : Int) 10 = ((q % 10 : Nat) : Int) := by rw [e10, tmodN]
          have ed : Int.tdiv (q : Int) 10 = ((q / 10 : Nat) : Int) := by rw [e10, tdivN]
          simp only [Tree.holds, Leafs2, inR, lo, hi, em, ed]
          refine ⟨fun hlt2 => ?_, fun hge2 => ?_⟩
          · have hlt2 : k < 9 := by simp at hlt2; omega
            refine ⟨by decide, fun _ => ⟨by omega, fun _ => ⟨by omega, fun _ => ⟨⟨trivial, Nat.le_refl _, by omega⟩, fun _ => ⟨⟨by decide, by omega, by omega⟩, fun _ => ⟨by omega, fun _ => ?_⟩⟩⟩⟩⟩⟩
            rw [if_pos trivial]
            refine ⟨⟨k + 1, by omega⟩, by show 9 - (k + 1) < 9 - k; omega, ?_, ?_, by kernel_rfl, Nat.zero_le _⟩
            · simp [SW2, hnext, hqn, magS, natS, eqG_refl]
            · simp only [hnext]
              refine ⟨by simp [writeB, magS, natS, eqG_refl], ⟨by simp, rfl, ?_⟩, trivial⟩
              have := eqG_push (k := .u8) (l := c) (v := 48 + ((q % 10 : Nat) : Int)) (by omega)
              rw [show (48 + ((q % 10 : Nat) : Int)).toNat = 48 + q % 10 by omega] at this
              exact this
          · have hge2 : k = 9 := by simp at hge2; omega
            subst hge2
            refine ⟨by omega, fun _ => ?_⟩
            rw [if_neg (by decide), if_pos trivial]
            have hcw : c = wb x (i + 1) := by rw [← hc, hstep]
            exact ⟨⟨i + 1, hlt⟩, by show _ - (i + 1) < _ - i; omega, by simp [SW, hcw, magS, natS, eqG_refl], by simp [hcw, writeB, magS, natS, eqG_refl], by kernel_rfl, Nat.zero_le _⟩
      · have hge : i = (canon x).length := by simp at hge; omega
        subst hge
        exact write_end neg x hp hx0 hq b hb.symm
end Go.Proofs.Tryd
end

/- The integers' texts: Check, pair, Gcd. -/
section
set_option linter.unusedVariables false
set_option linter.unusedSimpArgs false
set_option maxRecDepth 100000
open Go Go.Sx Go.Proofs Go.Nov
namespace Go.Proofs.Tryd
attribute [local simp] eqKV eqA eqA0 eqH eqB eqL eqL0
noncomputable def K38 : List Go.Sx.Item := [.code (Tryd.f38.body.getD .skip)]
noncomputable def K45 : List Go.Sx.Item := [.code (Tryd.f45.body.getD .skip)]
noncomputable def K39 : List Go.Sx.Item := [.code (Tryd.f39.body.getD .skip)]

theorem dig_test (c : UInt8) : (if decide ((c.toNat : Int) < 48) = true then true else decide (57 < (c.toNat : Int))) = !isD c := by
  simp only [isD]
  by_cases h : c.toNat < 48
  · rw [if_pos (by simp; omega)]; simp; omega
  · rw [if_neg (by simp; omega)]
    by_cases h2 : c.toNat ≤ 57
    · have : decide (57 < (c.toNat : Int)) = false := by simp; omega
      rw [this]; simp; omega
    · have : decide (57 < (c.toNat : Int)) = true := by simp; omega
      rw [this]; simp; omega
def checkC : Ctr := ctrP true (fun s : List UInt8 => [.str s]) (fun s => s.length < 2 ^ 62) (fun s r => r = errI s) (fun _ r => (.int .i64 r, []))
def SCk (b : List UInt8) (i : Nat) : KV := [(3, .str b), (31, .int .i64 (b.length : Int)), (32, .int .i64 (i : Int)), (40, .undef), (41, .undef), (42, .undef), (43, .undef)]

theorem check_loop {O : Nat → Prop} {w0 : World} {Q : AV × Heap → Prop} {neg : Bool} (b : List UInt8) (hb : b.length < 2 ^ 62) (hf : b.all isD = true → formB neg b = true)
    (hq : Q (.int .i64 (if formB neg b then (if 1000 < b.length then 14 else 0) else 12), [])) :
    SafeK Tryd.prog Tryd.f38 O 0 w0 [] (fun _ _ _ => False) (RetR checkC 0 Q) (.code (.loop (lps K38 0).1) :: (lps K38 0).2) (mk Tryd.f38.ntmps (SCk b 0) []) := by
  refine SafeK.loop (ι := {i : Nat // i ≤ b.length ∧ ∀ j, j < i → isD (b.getD j 0) = true}) (fun i => SCk b i.1) (fun _ => []) (fun i => b.length - i.1) ⟨0, Nat.zero_le _, fun j hj => by omega⟩ 0 ?_ ?_ (by kernel_rfl)
  · exact ⟨by simp [SCk], by simp, by kernel_rfl, Nat.zero_le _⟩
  · rintro ⟨i, hil, hid⟩
    refine SafeK.run (k := inside K38 0) hmix noG_ok [3, 31, 32, 40, 41, 42, 43] 400 (T := Tree.ite (decide ((↑i : Int) < (↑(List.length b) : Int))) (Tree.side ((0 : Int) ≤ (↑i : Int) ∧ (↑i : Int) < (↑(List.length b) : Int)) (Tree.side (decide ((↑(UInt8.toNat (List.getD b (Int.toNat (↑i : Int)) (0 : UInt8))) : Int) < (48 : Int)) = false → (0 : Int) ≤ (↑i : Int) ∧ (↑i : Int) < (↑(List.length b) : Int)) (Tree.ite (bif decide ((↑(UInt8.toNat (List.getD b (Int.toNat (↑i : Int)) (0 : UInt8))) : Int) < (48 : Int)) then true else decide ((57 : Int) < (↑(UInt8.toNat (List.getD b (Int.toNat (↑i : Int)) (0 : UInt8))) : Int))) (Tree.leaf (Leaf2.ret [AV.int IntKind.i64 (12 : Int)] [])) (Tree.side (inR IntKind.i64 ((↑i : Int) + (1 : Int))) (Tree.leaf (Leaf2.back (0 : Nat) [((3 : Nat), AV.str b), ((31 : Nat), AV.int IntKind.i64 (↑(List.length b) : Int)), ((32 : Nat), AV.int IntKind.i64 ((↑i : Int) + (1 : Int))), ((40 : Nat), AV.undef), ((41 : Nat), AV.undef), ((42 : Nat), AV.undef), ((43 : Nat), AV.undef)] [])))))) (Tree.ite (decide ((1000 : Int) < (↑(List.length b) : Int))) (Tree.leaf (Leaf2.ret [AV.int IntKind.i64 (14 : Int)] [])) (Tree.leaf (Leaf2.ret [AV.int IntKind.i64 (0 : Int)] [])))) (by kernel_rfl) ?_
    simp only [Tree.holds, Leafs2, inR, lo, hi, Int.toNat_natCast, Bool.cond_eq_ite]
    refine ⟨fun hlt => ?_, fun hge => ⟨fun hbig => ?_, fun hsm => ?_⟩⟩
    · have hlt : i < b.length := by simp at hlt; omega
      refine ⟨by omega, fun _ => ⟨fun _ => by omega, fun _ => ⟨fun hbad => ?_, fun hgood => ⟨by omega, fun _ => ?_⟩⟩⟩⟩
      · have hnd : isD (b.getD i 0) = false := by
          rw [dig_test] at hbad
          simpa using hbad
        have hnf : formB neg b = false := by
          have : b.all isD = false := by
            rw [List.all_eq_false]
            refine ⟨b.getD i 0, by simp [List.getD, hlt], by simpa using hnd⟩
          simp [formB, this]
        rw [hnf] at hq
        exact RetR.scal hq rfl (by simp [resV])
      · have hd : isD (b.getD i 0) = true := by
          rw [dig_test] at hgood
          simpa using hgood
        rw [if_pos trivial]
        refine ⟨⟨i + 1, hlt, fun j hj => ?_⟩, by show b.length - (i + 1) < b.length - i; omega, by simp [SCk], by simp, by kernel_rfl, Nat.zero_le _⟩
        rcases Nat.lt_or_ge j i with h | h
        · exact hid j h
        · have : j = i := by omega
          subst this; exact hd
    all_goals
      have hge : i = b.length := by simp at hge; omega
      have hall : b.all isD = true := by
        rw [List.all_eq_true]
        intro c hc
        obtain ⟨j, hj, rfl⟩ := List.getElem_of_mem hc
        have := hid j (by omega)
        simpa [List.getD, hj] using this
      rw [hf hall] at hq
    · rw [if_pos rfl, if_pos (by simp at hbig; omega)] at hq
      exact RetR.scal hq rfl (by simp [resV])
    · rw [if_pos rfl, if_neg (by simp at hsm; omega)] at hq
      exact RetR.scal hq rfl (by simp [resV])
theorem check_ok : CtrOK Tryd.prog 38 checkC := by
  refine fn_ctrP (fn := Tryd.f38) (c := Tryd.f38.body.getD .skip) rfl rfl rfl fun s hs O w0 Q hq => ?_
  replace hq := hq _ rfl
  refine SafeK.run (k := K38) hmix noG_ok [3, 31, 32, 40, 41, 42, 43] 400 (T := Tree.side (decide ((0 : Int) < (↑(List.length s) : Int)) = true → (0 : Int) ≤ (0 : Int) ∧ (0 : Int) < (↑(List.length s) : Int)) (Tree.ite (bif decide ((0 : Int) < (↑(List.length s) : Int)) then decide ((↑(UInt8.toNat (List.getD s (0 : Nat) (0 : UInt8))) : Int) = (45 : Int)) else false) (Tree.side ((0 : Int) ≤ (1 : Int) ∧ (1 : Int) ≤ (↑(List.length s) : Int)) (Tree.ite (decide (List.drop (1 : Nat) (List.take (List.length s) s) = Array.toList #[(48 : UInt8)])) (Tree.leaf (Leaf2.ret [AV.int IntKind.i64 (12 : Int)] [])) (Tree.side (decide (List.drop (1 : Nat) (List.take (List.length s) s) = Array.toList #[]) = false → (0 : Int) ≤ (0 : Int) ∧ (0 : Int) < (↑(List.length (List.drop (1 : Nat) (List.take (List.length s) s))) : Int)) (Tree.ite (bif decide (List.drop (1 : Nat) (List.take (List.length s) s) = Array.toList #[]) then true else bif decide ((↑(UInt8.toNat (List.getD (List.drop (1 : Nat) (List.take (List.length s) s)) (0 : Nat) (0 : UInt8))) : Int) = (48 : Int)) then decide ((1 : Int) < (↑(List.length (List.drop (1 : Nat) (List.take (List.length s) s))) : Int)) else false) (Tree.leaf (Leaf2.ret [AV.int IntKind.i64 (12 : Int)] [])) (Tree.leaf (Leaf2.loop (Prod.fst (lps K38 (0 : Nat))) (Prod.snd (lps K38 (0 : Nat))) [((3 : Nat), AV.str (List.drop (1 : Nat) (List.take (List.length s) s))), ((31 : Nat), AV.int IntKind.i64 (↑(List.length (List.drop (1 : Nat) (List.take (List.length s) s))) : Int)), ((32 : Nat), AV.int IntKind.i64 (0 : Int)), ((40 : Nat), AV.undef), ((41 : Nat), AV.undef), ((42 : Nat), AV.undef), ((43 : Nat), AV.undef)] [])))))) (Tree.side (decide (s = Array.toList #[]) = false → (0 : Int) ≤ (0 : Int) ∧ (0 : Int) < (↑(List.length s) : Int)) (Tree.ite (bif decide (s = Array.toList #[]) then true else bif decide ((↑(UInt8.toNat (List.getD s (0 : Nat) (0 : UInt8))) : Int) = (48 : Int)) then decide ((1 : Int) < (↑(List.length s) : Int)) else false) (Tree.leaf (Leaf2.ret [AV.int IntKind.i64 (12 : Int)] [])) (Tree.leaf (Leaf2.loop (Prod.fst (lps K38 (0 : Nat))) (Prod.snd (lps K38 (0 : Nat))) [((3 : Nat), AV.str s), ((31 : Nat), AV.int IntKind.i64 (↑(List.length s) : Int)), ((32 : Nat), AV.int IntKind.i64 (0 : Int)), ((40 : Nat), AV.undef), ((41 : Nat), AV.undef), ((42 : Nat), AV.undef), ((43 : Nat), AV.undef)] [])))))) (by kernel_rfl) ?_
  simp only [Tree.holds, Leafs2, inR, lo, hi, Bool.cond_eq_ite]
  cases s with
  | nil =>
    simp only [errI, parse, formB] at hq
    refine ⟨by simp, fun _ => ⟨fun h => by simp at h, fun _ => ⟨by simp, fun _ => ⟨fun _ => ?_, fun h => by simp at h⟩⟩⟩⟩
    exact RetR.scal hq rfl (by simp [resV])
  | cons c b =>
    refine ⟨by simp, fun _ => ⟨fun h => ?_, fun h => ?_⟩⟩
    · have hc : c = 45 := by
        simp at h
        have : c.toNat = 45 := by omega
        exact UInt8.toNat_inj.1 this
      subst hc
      have hp : parse (45 :: b) = (true, b) := rfl
      have hd : List.drop 1 (List.take (45 :: b).length (45 :: b)) = b := by simp
      rw [hd]
      simp only [errI, hp] at hq
      refine ⟨by simp; omega, fun _ => ⟨fun h0 => ?_, fun h0 => ⟨fun hne => ?_, fun _ => ⟨fun hbad => ?_, fun hgood => ?_⟩⟩⟩⟩
      · have hb : b = [48] := by simpa using h0
        subst hb
        exact RetR.scal hq rfl rfl
      · have : b ≠ [] := by simpa using hne
        have := List.length_pos_iff.2 this
        omega
      · have hnf : formB true b = false := by
          by_cases hb : b = []
          · subst hb; rfl
          · rw [if_neg (by simpa using hb)] at hbad
            split at hbad
            · rename_i h48
              have : b.getD 0 0 = 48 := u8_eq (of_decide_eq_true h48)
              have hl : 1 < b.length := by simp at hbad; omega
              exact formB_zero this hl
            · cases hbad
        rw [hnf] at hq
        exact RetR.scal hq rfl (by simp [resV])
      · have hf : b.all isD = true → formB true b = true := by
          intro hall
          have hb : b ≠ [] := by
            intro hb; subst hb; simp at hgood
          have hb2 : b ≠ [48] := by simpa using h0
          rw [if_neg (by simpa using hb)] at hgood
          have h3 : ¬ (b.getD 0 0 = 48 ∧ 1 < b.length) := by
            rintro ⟨g1, g2⟩
            rw [g1] at hgood
            rw [if_pos (by decide)] at hgood
            simp at hgood; omega
          simp only [formB, hall, hb, hb2, Bool.and_true]
          simp only [decide_false, Bool.not_false, Bool.and_false, Bool.true_and, Bool.not_eq_true', Bool.and_eq_false_iff, decide_eq_false_iff_not]
          by_cases g1 : b.getD 0 0 = 48
          · exact .inr fun g2 => h3 ⟨g1, g2⟩
          · exact .inl g1
        exact check_loop b (by simp at hs; omega) hf hq
    · have hc : c ≠ 45 := by
        rintro rfl
        simp at h
      have hp : parse (c :: b) = (false, c :: b) := by simp [parse, hc]
      simp only [errI, hp] at hq
      obtain ⟨s, hs'⟩ : ∃ s, c :: b = s := ⟨_, rfl⟩
      have hne : s ≠ [] := by rw [← hs']; simp
      rw [hs'] at hq hs ⊢
      refine ⟨fun _ => ⟨by omega, by have := List.length_pos_iff.2 hne; omega⟩, fun _ => ⟨fun hbad => ?_, fun hgood => ?_⟩⟩
      · have hnf : formB false s = false := by
          rw [if_neg (by simpa using hne)] at hbad
          split at hbad
          · rename_i h48
            have : s.getD 0 0 = 48 := u8_eq (of_decide_eq_true h48)
            have hl : 1 < s.length := by simp at hbad; omega
            exact formB_zero this hl
          · cases hbad
        rw [hnf] at hq
        exact RetR.scal hq rfl (by simp [resV])
      · have hf : s.all isD = true → formB false s = true := by
          intro hall
          rw [if_neg (by simpa using hne)] at hgood
          have h3 : ¬ (s.getD 0 0 = 48 ∧ 1 < s.length) := by
            rintro ⟨g1, g2⟩
            rw [g1] at hgood
            rw [if_pos (by decide)] at hgood
            simp at hgood; omega
          simp only [formB, hall, hne, Bool.and_true]
          simp only [decide_false, Bool.not_false, Bool.false_and, Bool.true_and, Bool.not_eq_true', Bool.and_eq_false_iff, decide_eq_false_iff_not]
          by_cases g1 : s.getD 0 0 = 48
          · exact .inr fun g2 => h3 ⟨g1, g2⟩
          · exact .inl g1
        exact check_loop s hs hf hq

def numV (neg : Bool) (x : Nat) : AV := .agg [.bool neg, magS x]
def pairC : Ctr := ctrP false (fun p : List UInt8 × List UInt8 => [.str p.1, .str p.2]) (fun p => p.1.length < 2 ^ 62 ∧ p.2.length < 2 ^ 62) (fun p (r : Int × (Bool × Nat) × (Bool × Nat)) => r = if errI2 p.1 p.2 = 0 then (0, (negI p.1, numI p.1), (negI p.2, numI p.2)) else (errI2 p.1 p.2, (false, 0), (false, 0)))
  (fun _ r => (.tup [numV r.2.1.1 r.2.1.2, numV r.2.2.1 r.2.2.2, .int .i64 r.1], []))
def G5 : Nat → Option Ctr := fun f => if f = 38 then some (checkC) else if f = 52 then some (readC) else none
theorem G5_ok : ∀ g c, G5 g = some c → CtrOK Tryd.prog g c := by
  intro g c h
  unfold G5 at h
  by_cases hg : g = 38
  · subst hg
    rw [if_pos rfl] at h
    cases h
    exact check_ok
  rw [if_neg hg] at h
  clear hg
  by_cases hg : g = 52
  · subst hg
    rw [if_pos rfl] at h
    cases h
    exact read_ok
  rw [if_neg hg] at h
  clear hg
  cases h

theorem canon0 : canon 0 = [] := by simp [canon]
theorem pair_ok : CtrOK Tryd.prog 45 pairC := by
  refine fn_ctrP (fn := Tryd.f45) (c := Tryd.f45.body.getD .skip) rfl rfl rfl fun p hp O w0 Q hq => ?_
  obtain ⟨s, t⟩ := p
  obtain ⟨hs, ht⟩ := hp
  replace hq := hq _ rfl
  simp only at hs ht hq
  refine SafeK.run (k := K45) hmix G5_ok [] 400 (T := Tree.ex (fun (x : List UInt8) => eqL [AV.str s] [AV.str x] ∧ List.length x < (4611686018427387904 : Nat)) fun (n : List UInt8) => Tree.all (fun (r : Int) => r = errI n) fun (n : Int) => Tree.ite (decide (n = (0 : Int))) (Tree.ex (fun (x : List UInt8) => eqL [AV.str t] [AV.str x] ∧ List.length x < (4611686018427387904 : Nat)) fun (n : List UInt8) => Tree.all (fun (r : Int) => r = errI n) fun (n : Int) => Tree.ite (!decide (n = (0 : Int))) (Tree.leaf (Leaf2.ret [AV.agg [AV.bool false, AV.nils], AV.agg [AV.bool false, AV.nils], AV.int IntKind.i64 n] [Blk.box [AV.bool false, AV.nils], Blk.box [AV.bool false, AV.nils]])) (Tree.ex (fun (x : Bool × List UInt8) => eqL [AV.str s] [AV.str (sgn (Prod.fst x) (Prod.snd x))] ∧ allD (Prod.snd x) ∧ Prod.snd x ≠ [] ∧ List.length (Prod.snd x) ≤ (1000000 : Nat)) fun (n : Bool × List UInt8) => Tree.all (fun (r : Nat) => r = numD (Prod.snd n)) fun (n_1 : Nat) => Tree.ex (fun (x : Bool × List UInt8) => eqL [AV.str t] [AV.str (sgn (Prod.fst x) (Prod.snd x))] ∧ allD (Prod.snd x) ∧ Prod.snd x ≠ [] ∧ List.length (Prod.snd x) ≤ (1000000 : Nat)) fun (n_2 : Bool × List UInt8) => Tree.all (fun (r : Nat) => r = numD (Prod.snd n_2)) fun (n_3 : Nat) => Tree.leaf (Leaf2.ret [AV.agg [AV.bool (Prod.fst n), AV.sl (List.length (canon n_1)) (1 : Nat) (natG IntKind.u32 (canon n_1))], AV.agg [AV.bool (Prod.fst n_2), AV.sl (List.length (canon n_3)) (1 : Nat) (natG IntKind.u32 (canon n_3))], AV.int IntKind.i64 (0 : Int)] [Blk.box [AV.bool (Prod.fst n), AV.sl (List.length (canon n_1)) (1 : Nat) (natG IntKind.u32 (canon n_1))], Blk.box [AV.bool (Prod.fst n_2), AV.sl (List.length (canon n_3)) (1 : Nat) (natG IntKind.u32 (canon n_3))]]))) (Tree.ite (!decide (n = (0 : Int))) (Tree.leaf (Leaf2.ret [AV.agg [AV.bool false, AV.nils], AV.agg [AV.bool false, AV.nils], AV.int IntKind.i64 n] [Blk.box [AV.bool false, AV.nils], Blk.box [AV.bool false, AV.nils]])) (Tree.ex (fun (x : Bool × List UInt8) => eqL [AV.str s] [AV.str (sgn (Prod.fst x) (Prod.snd x))] ∧ allD (Prod.snd x) ∧ Prod.snd x ≠ [] ∧ List.length (Prod.snd x) ≤ (1000000 : Nat)) fun (n : Bool × List UInt8) => Tree.all (fun (r : Nat) => r = numD (Prod.snd n)) fun (n_1 : Nat) => Tree.ex (fun (x : Bool × List UInt8) => eqL [AV.str t] [AV.str (sgn (Prod.fst x) (Prod.snd x))] ∧ allD (Prod.snd x) ∧ Prod.snd x ≠ [] ∧ List.length (Prod.snd x) ≤ (1000000 : Nat)) fun (n_2 : Bool × List UInt8) => Tree.all (fun (r : Nat) => r = numD (Prod.snd n_2)) fun (n_3 : Nat) => Tree.leaf (Leaf2.ret [AV.agg [AV.bool (Prod.fst n), AV.sl (List.length (canon n_1)) (1 : Nat) (natG IntKind.u32 (canon n_1))], AV.agg [AV.bool (Prod.fst n_2), AV.sl (List.length (canon n_3)) (1 : Nat) (natG IntKind.u32 (canon n_3))], AV.int IntKind.i64 (0 : Int)] [Blk.box [AV.bool (Prod.fst n), AV.sl (List.length (canon n_1)) (1 : Nat) (natG IntKind.u32 (canon n_1))], Blk.box [AV.bool (Prod.fst n_2), AV.sl (List.length (canon n_3)) (1 : Nat) (natG IntKind.u32 (canon n_3))]])))) (by kernel_rfl) ?_
  have bad : ∀ h, errI2 s t ≠ 0 → RetR pairC 0 Q [.agg [.bool false, .nils], .agg [.bool false, .nils], .int .i64 (errI2 s t)] h := by
    intro h he
    rw [if_neg he] at hq
    refine RetR.out0 hq (fun h => by simp [pairC, ctrP] at h) ?_
    simp [resV, exp2, exp1, exp0, ren0, eqA2, eqL1, eqA, eqL0, eqA0, numV, magS, natS, canon0]
  have good : ∀ h, errI2 s t = 0 → RetR pairC 0 Q [.agg [.bool (negI s), magS (numI s)], .agg [.bool (negI t), magS (numI t)], .int .i64 0] h := by
    intro h he
    rw [if_pos he] at hq
    refine RetR.out0 hq (fun h => by simp [pairC, ctrP] at h) ?_
    simp [resV, exp2, exp1, exp0, ren0, eqA2, eqL1, eqA, eqL0, eqA0, numV, magS, natS, eqG_refl]
  have rd : ∀ u, errI u = 0 → eqL [AV.str u] [AV.str (sgn (negI u) (parse u).2)] ∧ allD (parse u).2 ∧ (parse u).2 ≠ [] ∧ (parse u).2.length ≤ 1000000 := by
    intro u hu
    obtain ⟨h1, h2, h3, h4⟩ := errI_sgn hu
    exact ⟨by simpa using h1, h2, h3, by omega⟩
  simp only [Tree.holds, Leafs2]
  refine ⟨s, ⟨by simp, by omega⟩, ?_⟩
  refine ⟨⟨_, rfl⟩, ?_⟩
  rintro _ rfl
  refine ⟨fun h1 => ?_, fun h1 => ?_⟩
  · have h1 : errI s = 0 := by simpa using h1
    refine ⟨t, ⟨by simp, by omega⟩, ?_⟩
    refine ⟨⟨_, rfl⟩, ?_⟩
    rintro _ rfl
    refine ⟨fun h2 => ?_, fun h2 => ?_⟩
    · have h2 : errI t ≠ 0 := by simpa using h2
      have e : errI2 s t = errI t := by simp [errI2, h1]
      rw [← e]
      exact bad _ (by rw [e]; exact h2)
    · have h2 : errI t = 0 := by simpa using h2
      refine ⟨(negI s, (parse s).2), rd s h1, ?_⟩
      refine ⟨⟨_, rfl⟩, ?_⟩
      rintro _ rfl
      refine ⟨(negI t, (parse t).2), rd t h2, ?_⟩
      refine ⟨⟨_, rfl⟩, ?_⟩
      rintro _ rfl
      exact good _ (errI2_zero.2 ⟨h1, h2⟩)
  · have h1 : errI s ≠ 0 := by simpa using h1
    have e : errI2 s t = errI s := by simp [errI2, h1]
    refine ⟨fun h2 => ?_, fun h2 => absurd (by simpa using h2) h1⟩
    rw [← e]
    exact bad _ (by rw [e]; exact h1)
def G6 : Nat → Option Ctr := fun f => if f = 45 then some (pairC) else if f = 46 then some (divideC) else if f = 47 then some (writeC) else none
theorem G6_ok : ∀ g c, G6 g = some c → CtrOK Tryd.prog g c := by
  intro g c h
  unfold G6 at h
  by_cases hg : g = 45
  · subst hg
    rw [if_pos rfl] at h
    cases h
    exact pair_ok
  rw [if_neg hg] at h
  clear hg
  by_cases hg : g = 46
  · subst hg
    rw [if_pos rfl] at h
    cases h
    exact divide_ok
  rw [if_neg hg] at h
  clear hg
  by_cases hg : g = 47
  · subst hg
    rw [if_pos rfl] at h
    cases h
    exact write_ok
  rw [if_neg hg] at h
  clear hg
  cases h

def gcdC : Ctr := ctrP true (fun p : List UInt8 × List UInt8 => [.str p.1, .str p.2]) (fun p => p.1.length < 2 ^ 62 ∧ p.2.length < 2 ^ 62) (fun p r => r = gcdR p.1 p.2) (fun _ r => (.tup [.str r.1, .int .i64 r.2], []))
def SGc : KV := [(6, .ptr 0 0), (7, .ptr 1 0)]
def HGc (m n : Bool) (x y : Nat) : Heap := [.box [.bool m, magS x], .box [.bool n, magS y]]
theorem canon_small {x : Nat} : x < B ^ 112 ↔ (canon x).length ≤ 112 := by
  refine ⟨fun h => canon_length_le h, fun h => ?_⟩
  have h1 := val_lt (dig_canon x)
  rw [val_canon] at h1
  exact Nat.lt_of_lt_of_le h1 (Nat.pow_le_pow_right (by decide) h)
theorem canon_nil {x : Nat} : (canon x).length = 0 ↔ x = 0 := by
  constructor
  · intro h
    have := val_canon x
    rw [List.length_eq_zero_iff.1 h] at this
    exact this.symm
  · rintro rfl; simp [canon]
theorem gcd_ok : CtrOK Tryd.prog 39 gcdC := by
  refine fn_ctrP (fn := Tryd.f39) (c := Tryd.f39.body.getD .skip) rfl rfl rfl fun p hp O w0 Q hq => ?_
  obtain ⟨s, t⟩ := p
  obtain ⟨hs, ht⟩ := hp
  replace hq := hq _ rfl
  simp only at hs ht hq
  refine SafeK.run (k := K39) hmix G6_ok [6, 7] 400 (T := Tree.ex (fun (x : List UInt8 × List UInt8) => eqL [AV.str s, AV.str t] [AV.str (Prod.fst x), AV.str (Prod.snd x)] ∧ List.length (Prod.fst x) < (4611686018427387904 : Nat) ∧ List.length (Prod.snd x) < (4611686018427387904 : Nat)) fun (n : List UInt8 × List UInt8) => Tree.all (fun (r : Int × (Bool × Nat) × Bool × Nat) => r = if errI2 (Prod.fst n) (Prod.snd n) = (0 : Int) then ((0 : Int), (negI (Prod.fst n), numI (Prod.fst n)), negI (Prod.snd n), numI (Prod.snd n)) else (errI2 (Prod.fst n) (Prod.snd n), (false, (0 : Nat)), false, (0 : Nat))) fun (n : Int × (Bool × Nat) × Bool × Nat) => Tree.ite (!decide (Prod.fst n = (0 : Int))) (Tree.leaf (Leaf2.ret [AV.str (Array.toList #[]), AV.int IntKind.i64 (Prod.fst n)] [Blk.box [AV.bool (Prod.fst (Prod.fst (Prod.snd n))), AV.sl (List.length (canon (Prod.snd (Prod.fst (Prod.snd n))))) (1 : Nat) (natG IntKind.u32 (canon (Prod.snd (Prod.fst (Prod.snd n)))))], Blk.box [AV.bool (Prod.fst (Prod.snd (Prod.snd n))), AV.sl (List.length (canon (Prod.snd (Prod.snd (Prod.snd n))))) (1 : Nat) (natG IntKind.u32 (canon (Prod.snd (Prod.snd (Prod.snd n)))))]])) (Tree.leaf (Leaf2.loop (Prod.fst (lps K39 (0 : Nat))) (Prod.snd (lps K39 (0 : Nat))) [((6 : Nat), AV.ptr (0 : Nat) (0 : Nat)), ((7 : Nat), AV.ptr (1 : Nat) (0 : Nat))] [Blk.box [AV.bool (Prod.fst (Prod.fst (Prod.snd n))), AV.sl (List.length (canon (Prod.snd (Prod.fst (Prod.snd n))))) (1 : Nat) (natG IntKind.u32 (canon (Prod.snd (Prod.fst (Prod.snd n)))))], Blk.box [AV.bool (Prod.fst (Prod.snd (Prod.snd n))), AV.sl (List.length (canon (Prod.snd (Prod.snd (Prod.snd n))))) (1 : Nat) (natG IntKind.u32 (canon (Prod.snd (Prod.snd (Prod.snd n)))))]]))) (by kernel_rfl) ?_
  simp only [Tree.holds, Leafs2]
  refine ⟨(s, t), ⟨by simp, hs, ht⟩, ⟨_, rfl⟩, ?_⟩
  rintro _ rfl
  refine ⟨fun he => ?_, fun he => ?_⟩
  · have he : errI2 s t ≠ 0 := by
      intro h; simp [h] at he
    have e : gcdR s t = ([], errI2 s t) := by simp [gcdR, he]
    simp only [if_neg he]
    rw [e] at hq
    exact RetR.scal hq rfl (by simp [resV])
  · have he : errI2 s t = 0 := by
      refine Decidable.byContradiction fun h => ?_
      simp [h] at he
    simp only [if_pos he]
    have e : gcdR s t = wr false (Nat.gcd (numI s) (numI t)) := by simp [gcdR, he]
    rw [e] at hq
    obtain ⟨h1, h2⟩ := errI2_zero.1 he
    have b1 := canon_small.2 (numI_small h1)
    have b2 := canon_small.2 (numI_small h2)
    clear e he h1 h2 hs ht
    generalize numI s = x0 at *
    generalize numI t = y0 at *
    refine SafeK.loop (ι := {z : Bool × Bool × Nat × Nat // Nat.gcd z.2.2.1 z.2.2.2 = Nat.gcd x0 y0 ∧ z.2.2.1 < B ^ 112 ∧ z.2.2.2 < B ^ 112}) (fun _ => SGc) (fun z => HGc z.1.1 z.1.2.1 z.1.2.2.1 z.1.2.2.2) (fun z => z.1.2.2.2) ⟨(negI s, negI t, x0, y0), rfl, b1, b2⟩ 0 ?_ ?_ (by kernel_rfl)
    · exact ⟨by simp [SGc], by simp [HGc, magS, natS, eqG_refl], by kernel_rfl, Nat.zero_le _⟩
    · rintro ⟨⟨m, n, x, y⟩, hg, hx, hy⟩
      simp only at hg hx hy
      refine SafeK.run (k := inside K39 0) hmix G6_ok [6, 7] 400 (T := Tree.ite (decide ((0 : Int) < (↑(List.length (canon y)) : Int))) (Tree.ex (fun (x_1 : Nat × Nat) => eqL [AV.sl (List.length (canon x)) (1 : Nat) (natG IntKind.u32 (canon x)), AV.sl (List.length (canon y)) (1 : Nat) (natG IntKind.u32 (canon y))] [AV.sl (List.length (canon (Prod.fst x_1))) (1 : Nat) (natG IntKind.u32 (canon (Prod.fst x_1))), AV.sl (List.length (canon (Prod.snd x_1))) (1 : Nat) (natG IntKind.u32 (canon (Prod.snd x_1)))] ∧ List.length (canon (Prod.fst x_1)) < (100000 : Nat) ∧ List.length (canon (Prod.snd x_1)) < (100000 : Nat) ∧ (0 : Nat) < Prod.snd x_1) fun (n_1 : Nat × Nat) => Tree.all (fun (r : Nat × Nat) => r = (Prod.fst n_1 / Prod.snd n_1, Prod.fst n_1 % Prod.snd n_1)) fun (n_2 : Nat × Nat) => Tree.leaf (Leaf2.back (0 : Nat) [((6 : Nat), AV.ptr (0 : Nat) (0 : Nat)), ((7 : Nat), AV.ptr (1 : Nat) (0 : Nat))] [Blk.box [AV.bool m, AV.sl (List.length (canon y)) (1 : Nat) (natG IntKind.u32 (canon y))], Blk.box [AV.bool n, AV.sl (List.length (canon (Prod.snd n_2))) (1 : Nat) (natG IntKind.u32 (canon (Prod.snd n_2)))]])) (Tree.ex (fun (x_1 : Bool × Nat) => eqL [AV.agg [AV.bool false, AV.sl (List.length (canon x)) (1 : Nat) (natG IntKind.u32 (canon x))]] [AV.agg [AV.bool (Prod.fst x_1), AV.sl (List.length (canon (Prod.snd x_1))) (1 : Nat) (natG IntKind.u32 (canon (Prod.snd x_1)))]] ∧ List.length (canon (Prod.snd x_1)) < (1000000 : Nat)) fun (n_1 : Bool × Nat) => Tree.all (fun (r : List UInt8 × Int) => r = wr (Prod.fst n_1) (Prod.snd n_1)) fun (n_2 : List UInt8 × Int) => Tree.leaf (Leaf2.ret [AV.str (Prod.fst n_2), AV.int IntKind.i64 (Prod.snd n_2)] [Blk.box [AV.bool m, AV.sl (List.length (canon x)) (1 : Nat) (natG IntKind.u32 (canon x))], Blk.box [AV.bool n, AV.sl (List.length (canon y)) (1 : Nat) (natG IntKind.u32 (canon y))]]))) (by kernel_rfl) ?_
      simp only [Tree.holds, Leafs2, inR, lo, hi]
      refine ⟨fun h0 => ?_, fun h0 => ?_⟩
      · have hy0 : 0 < y := by
          rcases Nat.eq_zero_or_pos y with h | h
          · rw [h] at h0; simp [canon] at h0
          · exact h
        refine ⟨(x, y), ⟨by simp [eqG_refl], ?_, ?_, hy0⟩, ⟨_, rfl⟩, ?_⟩
        · have := canon_small.1 hx; show (canon x).length < 100000; omega
        · have := canon_small.1 hy; show (canon y).length < 100000; omega
        rintro _ rfl
        simp only
        rw [if_pos trivial]
        refine ⟨⟨(m, n, y, x % y), ?_, hy, Nat.lt_trans (Nat.mod_lt x hy0) hy⟩, Nat.mod_lt x hy0, by simp [SGc], by simp [HGc, magS, natS, eqG_refl], by kernel_rfl, Nat.zero_le _⟩
        show Nat.gcd y (x % y) = Nat.gcd x0 y0
        rw [← hg, Nat.gcd_comm x y, Nat.gcd_rec y x, Nat.gcd_comm]
      · have hy0 : y = 0 := canon_nil.1 (by have h0 := of_decide_eq_false h0; omega)
        subst hy0
        refine ⟨(false, x), ⟨by simp [eqG_refl], ?_⟩, ⟨_, rfl⟩, ?_⟩
        · have := canon_small.1 hx; show (canon x).length < 1000000; omega
        rintro _ rfl
        rw [Nat.gcd_zero_right] at hg
        rw [← hg] at hq
        exact RetR.scal hq rfl (by simp [resV])
end Go.Proofs.Tryd
end

/- The reference's integers: digits and comparing. -/
section
set_option linter.unusedVariables false
set_option linter.unusedSimpArgs false
set_option maxRecDepth 100000
open Go Go.Sx Go.Proofs Go.Nov
namespace Go.Proofs.Tryd
attribute [local simp] eqKV eqA eqA0 eqH eqB eqL eqL0
noncomputable def K60 : List Go.Sx.Item := [.code (Tryd.f60.body.getD .skip)]
noncomputable def K49 : List Go.Sx.Item := [.code (Tryd.f49.body.getD .skip)]
noncomputable def K50 : List Go.Sx.Item := [.code (Tryd.f50.body.getD .skip)]

theorem exp0_own {h : Heap} {i sz off n n' : Nat} {g : Nat → Nat → AV} (hb : h[i]? = some (.arr n' sz g)) (hn : off + n ≤ n') : exp0 h [] (.osl i sz off n) = .sl n sz (viewG g off) := by
  simp [exp0, posIn, frz1, seqOf, hb, hn]
theorem new0_own {h : Heap} {i sz off n n' : Nat} {g : Nat → Nat → AV} (hb : h[i]? = some (.arr n' sz g)) (hn : off + n ≤ n') (hs : ∀ j o, j < n → o < sz → scalA (viewG g off j o) = true) : new0 h [] (.osl i sz off n) := by
  simp only [new0]
  intro _
  rw [exp0_own hb hn]
  exact hs
theorem scal_nat (k : IntKind) (l : List Nat) (off j o : Nat) : scalA (viewG (natG k l) off j o) = true := by
  simp [viewG, natG, scalA]
theorem view0 (g : Nat → Nat → AV) : viewG g 0 = g := by
  funext j o; simp [viewG]
/-- An own slice of numbers, handed over as the result. -/
theorem RetR.nats {ctr : Ctr} {Q : AV × Heap → Prop} {h : Heap} {i : Nat} {k : IntKind} {l : List Nat} (hq : Q (natS k l, [])) (hb : h[i]? = some (.arr l.length 1 (natG k l))) : RetR ctr 0 Q [.osl i 1 0 l.length] h := by
  refine RetR.out0 hq (fun _ => ?_) ?_
  · exact new0_own hb (by omega) fun j o _ _ => scal_nat _ _ _ _ _
  · have e : exp2 h [] (resV [.osl i 1 0 l.length]) = exp0 h [] (.osl i 1 0 l.length) := rfl
    rw [e, exp0_own hb (by omega), view0]
    simp [eqA2, natS, eqG_refl]
abbrev nat6 (l : List Nat) : AV := natS .i64 l
def atC : Ctr := ctrP true (fun p : List Nat × Nat => [nat6 p.1, .int .i64 (p.2 : Int)]) (fun p => True) (fun p r => r = p.1.getD p.2 0) (fun _ (r : Nat) => (.int .i64 (r : Int), []))

theorem at_ok : CtrOK Tryd.prog 60 atC := by
  refine fn_ctrP (fn := Tryd.f60) (c := Tryd.f60.body.getD .skip) rfl rfl rfl fun p hp O w0 Q hq => ?_
  obtain ⟨l, i⟩ := p
  replace hq := hq _ rfl
  simp only at hq
  refine SafeK.run (k := K60) hmix noG_ok [] 400 (T := Tree.ite (decide ((↑i : Int) < (↑(List.length l) : Int))) (Tree.side ((0 : Int) ≤ (↑i : Int) ∧ (↑i : Int) < (↑(List.length l) : Int)) (Tree.leaf (Leaf2.ret [AV.int IntKind.i64 (↑(List.getD l (Int.toNat (↑i : Int)) (0 : Nat)) : Int)] []))) (Tree.leaf (Leaf2.ret [AV.int IntKind.i64 (0 : Int)] []))) (by kernel_rfl) ?_
  simp only [Tree.holds, Leafs2, inR, lo, hi, Int.toNat_natCast]
  refine ⟨fun h => ?_, fun h => ?_⟩
  · have h : i < l.length := by have := of_decide_eq_true h; omega
    exact ⟨by omega, fun _ => RetR.scal hq rfl (by simp [resV])⟩
  · have h : l.length ≤ i := by have := of_decide_eq_false h; omega
    rw [getD_out h] at hq
    exact RetR.scal hq rfl (by simp [resV])
def greaterC : Ctr := ctrP true (fun p : List Nat × List Nat => [nat6 p.1, nat6 p.2]) (fun p => Ten.dig p.1 ∧ Ten.dig p.2 ∧ p.1.length < 2 ^ 62 ∧ p.2.length < 2 ^ 62) (fun p r => r = cmpN (Ten.val p.1) (Ten.val p.2)) (fun _ (r : Int) => (.int .i64 r, []))
def SGr (l m : List Nat) (i : Nat) : KV := [(0, nat6 l), (1, nat6 m), (5, .int .i64 ((i : Int) - 1))]
def GR : Nat → Option Ctr := fun f => if f = 60 then some (atC) else none
theorem GR_ok : ∀ g c, GR g = some c → CtrOK Tryd.prog g c := by
  intro g c h
  unfold GR at h
  by_cases hg : g = 60
  · subst hg
    rw [if_pos rfl] at h
    cases h
    exact at_ok
  rw [if_neg hg] at h
  clear hg
  cases h

theorem greater_ok : CtrOK Tryd.prog 49 greaterC := by
  refine fn_ctrP (fn := Tryd.f49) (c := Tryd.f49.body.getD .skip) rfl rfl rfl fun p hp O w0 Q hq => ?_
  obtain ⟨l, m⟩ := p
  obtain ⟨hl, hm, hll, hml⟩ := hp
  replace hq := hq _ rfl
  simp only at hq hl hm hll hml
  refine SafeK.run (k := K49) hmix GR_ok [0, 1, 5] 400 (T := Tree.side (inR IntKind.i64 (max (↑(List.length l) : Int) (↑(List.length m) : Int) - (1 : Int))) (Tree.leaf (Leaf2.loop (Prod.fst (lps K49 (0 : Nat))) (Prod.snd (lps K49 (0 : Nat))) [((0 : Nat), AV.sl (List.length l) (1 : Nat) (natG IntKind.i64 l)), ((1 : Nat), AV.sl (List.length m) (1 : Nat) (natG IntKind.i64 m)), ((5 : Nat), AV.int IntKind.i64 (max (↑(List.length l) : Int) (↑(List.length m) : Int) - (1 : Int)))] []))) (by kernel_rfl) ?_
  simp only [Tree.holds, Leafs2, inR, lo, hi, Int.toNat_natCast]
  refine ⟨by omega, fun _ => ?_⟩
  refine SafeK.loop (ι := {i : Nat // i ≤ max l.length m.length ∧ ∀ j, i ≤ j → l.getD j 0 = m.getD j 0}) (fun i => SGr l m i.1) (fun _ => []) (fun i => i.1) ⟨max l.length m.length, Nat.le_refl _, fun j hj => by rw [getD_out (by omega), getD_out (by omega)]⟩ 0 ?_ ?_ (by kernel_rfl)
  · exact ⟨by simp [SGr, natS, eqG_refl]; omega, by simp, by kernel_rfl, Nat.zero_le _⟩
  · rintro ⟨i, hil, hie⟩
    refine SafeK.run (k := inside K49 0) hmix GR_ok [0, 1, 5] 400 (T := Tree.ite (decide ((0 : Int) ≤ (↑i : Int) - (1 : Int))) (Tree.ex (fun (x : List Nat × Nat) => eqL [AV.sl (List.length l) (1 : Nat) (natG IntKind.i64 l), AV.int IntKind.i64 ((↑i : Int) - (1 : Int))] [AV.sl (List.length (Prod.fst x)) (1 : Nat) (natG IntKind.i64 (Prod.fst x)), AV.int IntKind.i64 (↑(Prod.snd x) : Int)] ∧ True) fun (n : List Nat × Nat) => Tree.all (fun (r : Nat) => r = List.getD (Prod.fst n) (Prod.snd n) (0 : Nat)) fun (n : Nat) => Tree.ex (fun (x : List Nat × Nat) => eqL [AV.sl (List.length m) (1 : Nat) (natG IntKind.i64 m), AV.int IntKind.i64 ((↑i : Int) - (1 : Int))] [AV.sl (List.length (Prod.fst x)) (1 : Nat) (natG IntKind.i64 (Prod.fst x)), AV.int IntKind.i64 (↑(Prod.snd x) : Int)] ∧ True) fun (n_1 : List Nat × Nat) => Tree.all (fun (r : Nat) => r = List.getD (Prod.fst n_1) (Prod.snd n_1) (0 : Nat)) fun (n_2 : Nat) => Tree.ite (!decide ((↑n : Int) = (↑n_2 : Int))) (Tree.ex (fun (x : List Nat × Nat) => eqL [AV.sl (List.length l) (1 : Nat) (natG IntKind.i64 l), AV.int IntKind.i64 ((↑i : Int) - (1 : Int))] [AV.sl (List.length (Prod.fst x)) (1 : Nat) (natG IntKind.i64 (Prod.fst x)), AV.int IntKind.i64 (↑(Prod.snd x) : Int)] ∧ True) fun (n : List Nat × Nat) => Tree.all (fun (r : Nat) => r = List.getD (Prod.fst n) (Prod.snd n) (0 : Nat)) fun (n : Nat) => Tree.ex (fun (x : List Nat × Nat) => eqL [AV.sl (List.length m) (1 : Nat) (natG IntKind.i64 m), AV.int IntKind.i64 ((↑i : Int) - (1 : Int))] [AV.sl (List.length (Prod.fst x)) (1 : Nat) (natG IntKind.i64 (Prod.fst x)), AV.int IntKind.i64 (↑(Prod.snd x) : Int)] ∧ True) fun (n_3 : List Nat × Nat) => Tree.all (fun (r : Nat) => r = List.getD (Prod.fst n_3) (Prod.snd n_3) (0 : Nat)) fun (n_4 : Nat) => Tree.ite (decide ((↑n_4 : Int) < (↑n : Int))) (Tree.leaf (Leaf2.ret [AV.int IntKind.i64 (1 : Int)] [])) (Tree.leaf (Leaf2.ret [AV.int IntKind.i64 (-1 : Int)] []))) (Tree.side (inR IntKind.i64 ((↑i : Int) - (1 : Int) - (1 : Int))) (Tree.leaf (Leaf2.back (0 : Nat) [((0 : Nat), AV.sl (List.length l) (1 : Nat) (natG IntKind.i64 l)), ((1 : Nat), AV.sl (List.length m) (1 : Nat) (natG IntKind.i64 m)), ((5 : Nat), AV.int IntKind.i64 ((↑i : Int) - (1 : Int) - (1 : Int)))] [])))) (Tree.leaf (Leaf2.ret [AV.int IntKind.i64 (0 : Int)] []))) (by kernel_rfl) ?_
    simp only [Tree.holds, Leafs2, inR, lo, hi, Int.toNat_natCast]
    refine ⟨fun hlt => ?_, fun hge => ?_⟩
    · have hlt : 0 < i := by have := of_decide_eq_true hlt; omega
      have e : (i : Int) - 1 = ((i - 1 : Nat) : Int) := by omega
      refine ⟨(l, i - 1), ⟨by simp [eqG_refl, e], trivial⟩, ⟨_, rfl⟩, ?_⟩
      rintro _ rfl
      refine ⟨(m, i - 1), ⟨by simp [eqG_refl, e], trivial⟩, ⟨_, rfl⟩, ?_⟩
      rintro _ rfl
      simp only
      refine ⟨fun hne => ?_, fun heq => ⟨by omega, fun _ => ?_⟩⟩
      · have hne : l.getD (i - 1) 0 ≠ m.getD (i - 1) 0 := by
          intro h; rw [h] at hne; simp at hne
        have hab : ∀ j, i - 1 < j → l.getD j 0 = m.getD j 0 := fun j hj => hie j (by omega)
        refine ⟨(l, i - 1), ⟨by simp [eqG_refl, e], trivial⟩, ⟨_, rfl⟩, ?_⟩
        rintro _ rfl
        refine ⟨(m, i - 1), ⟨by simp [eqG_refl, e], trivial⟩, ⟨_, rfl⟩, ?_⟩
        rintro _ rfl
        simp only
        refine ⟨fun h => ?_, fun h => ?_⟩
        · have h : m.getD (i - 1) 0 < l.getD (i - 1) 0 := by have := of_decide_eq_true h; omega
          have hv := val_lt_at hm (fun j hj => (hab j hj).symm) h
          have : cmpN (Ten.val l) (Ten.val m) = 1 := by simp only [cmpN]; rw [if_neg (by omega), if_pos hv]
          rw [this] at hq
          exact RetR.scal hq rfl (by simp [resV])
        · have h : l.getD (i - 1) 0 < m.getD (i - 1) 0 := by have := of_decide_eq_false h; omega
          have hv := val_lt_at hl hab h
          have : cmpN (Ten.val l) (Ten.val m) = -1 := by simp only [cmpN]; rw [if_pos hv]
          rw [this] at hq
          exact RetR.scal hq rfl (by simp [resV])
      · have heq : l.getD (i - 1) 0 = m.getD (i - 1) 0 := by
          refine Decidable.byContradiction fun h => ?_
          have : ¬ ((l.getD (i - 1) 0 : Nat) : Int) = ((m.getD (i - 1) 0 : Nat) : Int) := by omega
          rw [decide_eq_false this] at heq; cases heq
        rw [if_pos trivial]
        refine ⟨⟨i - 1, by omega, fun j hj => ?_⟩, by show i - 1 < i; omega, by simp [SGr, natS, eqG_refl]; omega, by simp, by kernel_rfl, Nat.zero_le _⟩
        rcases Nat.lt_or_ge j i with h | h
        · have : j = i - 1 := by omega
          rw [this]; exact heq
        · exact hie j h
    · have hge : i = 0 := by have := of_decide_eq_false hge; omega
      subst hge
      have hv := val_eq_all hl hm fun j => hie j (Nat.zero_le _)
      have : cmpN (Ten.val l) (Ten.val m) = 0 := by simp only [cmpN]; rw [if_neg (by omega), if_neg (by omega)]
      rw [this] at hq
      exact RetR.scal hq rfl (by simp [resV])
def minusR (p : List Nat × List Nat) (r : List Nat) : Prop := r.length = p.1.length ∧ Ten.dig r ∧ Ten.val r + Ten.val p.2 = Ten.val p.1
def rminusC : Ctr := ctrP true (fun p : List Nat × List Nat => [nat6 p.1, nat6 p.2]) (fun p => Ten.dig p.1 ∧ Ten.dig p.2 ∧ p.1.length < 2 ^ 40 ∧ Ten.val p.2 ≤ Ten.val p.1) minusR (fun _ r => (nat6 r, []))
def SMi (l m o : List Nat) (b i : Nat) : KV := [(0, nat6 l), (1, nat6 m), (5, .osl 0 1 0 o.length), (6, .int .i64 (b : Int)), (7, .int .i64 (i : Int))]
theorem rminus_ok : CtrOK Tryd.prog 50 rminusC := by
  refine fn_ctrP (fn := Tryd.f50) (c := Tryd.f50.body.getD .skip) rfl rfl rfl fun p hp O w0 Q hq => ?_
  obtain ⟨l, m⟩ := p
  obtain ⟨hl, hm, hll, hml⟩ := hp
  simp only at hq hl hm hll hml
  refine SafeK.run (k := K50) hmix GR_ok [0, 1, 5, 6, 7] 400 (T := Tree.leaf (Leaf2.loop (Prod.fst (lps K50 (0 : Nat))) (Prod.snd (lps K50 (0 : Nat))) [((0 : Nat), AV.sl (List.length l) (1 : Nat) (natG IntKind.i64 l)), ((1 : Nat), AV.sl (List.length m) (1 : Nat) (natG IntKind.i64 m)), ((5 : Nat), AV.nils), ((6 : Nat), AV.int IntKind.i64 (0 : Int)), ((7 : Nat), AV.int IntKind.i64 (0 : Int))] [])) (by kernel_rfl) ?_
  simp only [Tree.holds, Leafs2, inR, lo, hi, Int.toNat_natCast]
  refine SafeK.bear 5 1 (natG .i64 []) rfl (by decide) (by kernel_rfl) ?_
  refine SafeK.loop (ι := {z : List Nat × Nat × Nat // z.1.length = z.2.2 ∧ z.2.2 ≤ l.length ∧ Ten.dig z.1 ∧ z.2.1 ≤ 1 ∧ Ten.val z.1 + Ten.val (m.take z.2.2) = Ten.val (l.take z.2.2) + 10 ^ z.2.2 * z.2.1}) (fun z => SMi l m z.1.1 z.1.2.1 z.1.2.2) (fun z => [.arr z.1.1.length 1 (natG .i64 z.1.1)]) (fun z => l.length - z.1.2.2) ⟨([], 0, 0), rfl, Nat.zero_le _, by simp [Ten.dig], Nat.zero_le _, by simp [Ten.val]⟩ 0 ?_ ?_ (by kernel_rfl)
  · refine ⟨by simp [SMi, natS, eqG_refl, setKV], by simp [eqG_refl], by kernel_rfl, Nat.zero_le _⟩
  · rintro ⟨⟨o, b, i⟩, hol, hil, hod, hb, hv⟩
    refine SafeK.run (k := inside K50 0) hmix GR_ok [0, 1, 5, 6, 7] 400 (T := Tree.ite (decide ((↑i : Int) < (↑(List.length l) : Int))) (Tree.side ((0 : Int) ≤ (↑i : Int) ∧ (↑i : Int) < (↑(List.length l) : Int)) (Tree.ex (fun (x : List Nat × Nat) => eqL [AV.sl (List.length m) (1 : Nat) (natG IntKind.i64 m), AV.int IntKind.i64 (↑i : Int)] [AV.sl (List.length (Prod.fst x)) (1 : Nat) (natG IntKind.i64 (Prod.fst x)), AV.int IntKind.i64 (↑(Prod.snd x) : Int)] ∧ True) fun (n : List Nat × Nat) => Tree.all (fun (r : Nat) => r = List.getD (Prod.fst n) (Prod.snd n) (0 : Nat)) fun (n : Nat) => Tree.side (inR IntKind.i64 ((↑(List.getD l (Int.toNat (↑i : Int)) (0 : Nat)) : Int) - (↑n : Int))) (Tree.side (inR IntKind.i64 ((↑(List.getD l (Int.toNat (↑i : Int)) (0 : Nat)) : Int) - (↑n : Int) - (↑b : Int))) (Tree.ite (decide ((↑(List.getD l (Int.toNat (↑i : Int)) (0 : Nat)) : Int) - (↑n : Int) - (↑b : Int) < (0 : Int))) (Tree.side (inR IntKind.i64 ((↑(List.getD l (Int.toNat (↑i : Int)) (0 : Nat)) : Int) - (↑n : Int) - (↑b : Int) + (10 : Int))) (Tree.side ((0 : Nat) = (0 : Nat) ∧ List.length o ≤ List.length o ∧ (List.length o + (1 : Nat)) * (8 : Nat) ≤ (140737488355328 : Nat)) (Tree.side (inR IntKind.i64 ((↑i : Int) + (1 : Int))) (Tree.leaf (Leaf2.back (0 : Nat) [((0 : Nat), AV.sl (List.length l) (1 : Nat) (natG IntKind.i64 l)), ((1 : Nat), AV.sl (List.length m) (1 : Nat) (natG IntKind.i64 m)), ((5 : Nat), AV.osl (0 : Nat) (1 : Nat) (0 : Nat) (List.length o + (1 : Nat))), ((6 : Nat), AV.int IntKind.i64 (1 : Int)), ((7 : Nat), AV.int IntKind.i64 ((↑i : Int) + (1 : Int)))] [Blk.arr (List.length o + (1 : Nat)) (1 : Nat) (appG (List.length o) (natG IntKind.i64 o) (viewG (listG (1 : Nat) [AV.int IntKind.i64 ((↑(List.getD l (Int.toNat (↑i : Int)) (0 : Nat)) : Int) - (↑n : Int) - (↑b : Int) + (10 : Int))]) (0 : Nat))), Blk.arr (1 : Nat) (1 : Nat) (listG (1 : Nat) [AV.int IntKind.i64 ((↑(List.getD l (Int.toNat (↑i : Int)) (0 : Nat)) : Int) - (↑n : Int) - (↑b : Int) + (10 : Int))])]))))) (Tree.side ((0 : Nat) = (0 : Nat) ∧ List.length o ≤ List.length o ∧ (List.length o + (1 : Nat)) * (8 : Nat) ≤ (140737488355328 : Nat)) (Tree.side (inR IntKind.i64 ((↑i : Int) + (1 : Int))) (Tree.leaf (Leaf2.back (0 : Nat) [((0 : Nat), AV.sl (List.length l) (1 : Nat) (natG IntKind.i64 l)), ((1 : Nat), AV.sl (List.length m) (1 : Nat) (natG IntKind.i64 m)), ((5 : Nat), AV.osl (0 : Nat) (1 : Nat) (0 : Nat) (List.length o + (1 : Nat))), ((6 : Nat), AV.int IntKind.i64 (0 : Int)), ((7 : Nat), AV.int IntKind.i64 ((↑i : Int) + (1 : Int)))] [Blk.arr (List.length o + (1 : Nat)) (1 : Nat) (appG (List.length o) (natG IntKind.i64 o) (viewG (listG (1 : Nat) [AV.int IntKind.i64 ((↑(List.getD l (Int.toNat (↑i : Int)) (0 : Nat)) : Int) - (↑n : Int) - (↑b : Int))]) (0 : Nat))), Blk.arr (1 : Nat) (1 : Nat) (listG (1 : Nat) [AV.int IntKind.i64 ((↑(List.getD l (Int.toNat (↑i : Int)) (0 : Nat)) : Int) - (↑n : Int) - (↑b : Int))])])))))))) (Tree.leaf (Leaf2.ret [AV.osl (0 : Nat) (1 : Nat) (0 : Nat) (List.length o)] [Blk.arr (List.length o) (1 : Nat) (natG IntKind.i64 o)]))) (by kernel_rfl) ?_
    simp only [Tree.holds, Leafs2, inR, lo, hi, Int.toNat_natCast]
    simp only at hol hil hod hb hv
    refine ⟨fun hlt => ?_, fun hge => ?_⟩
    · have hlt : i < l.length := by have := of_decide_eq_true hlt; omega
      refine ⟨by omega, fun _ => ?_⟩
      refine ⟨(m, i), ⟨by simp [eqG_refl], trivial⟩, ⟨_, rfl⟩, ?_⟩
      rintro _ rfl
      simp only
      have h1 : l.getD i 0 < 10 := Ten.getD_lt hl i
      have h2 : m.getD i 0 < 10 := Ten.getD_lt hm i
      have step : ∀ d b', d + m.getD i 0 + b = l.getD i 0 + 10 * b' → Ten.val (o ++ [d]) + Ten.val (m.take (i + 1)) = Ten.val (l.take (i + 1)) + 10 ^ (i + 1) * b' := by
        intro d b' h
        rw [Ten.val_append, Ten.val_take_succ, Ten.val_take_succ, hol, Nat.pow_succ]
        have := minus_step hv h
        simpa [Ten.val] using this
      obtain ⟨x, hx⟩ : ∃ x, l.getD i 0 = x := ⟨_, rfl⟩
      obtain ⟨y, hy⟩ : ∃ y, m.getD i 0 = y := ⟨_, rfl⟩
      simp only [hx, hy] at h1 h2 step ⊢
      iterate 2 refine ⟨by clear step; omega, fun _ => ?_⟩
      have ei : ((i : Int) + 1) = ((i + 1 : Nat) : Int) := by omega
      refine ⟨fun hneg => ?_, fun hpos => ?_⟩
      · have hneg : x < y + b := by have := of_decide_eq_true hneg; clear step; omega
        refine ⟨by clear step; omega, fun _ => ?_⟩
        refine ⟨⟨trivial, Nat.le_refl _, by clear step; omega⟩, fun _ => ⟨by clear step; omega, fun _ => ?_⟩⟩
        rw [if_pos trivial]
        obtain ⟨d, hd⟩ : ∃ d, d + y + b = x + 10 := ⟨x + 10 - y - b, by clear step; omega⟩
        have hd2 : (x : Int) - y - b + 10 = (d : Nat) := by clear step; omega
        refine ⟨⟨(o ++ [d], 1, i + 1), by simp [hol], hlt, Ten.dig_append.2 ⟨hod, by simp only [Ten.dig, List.mem_singleton]; rintro _ rfl; show _ < 10; clear step; omega⟩, Nat.le_refl _, step d 1 (by clear step; omega)⟩, by show l.length - (i + 1) < l.length - i; omega, ?_, heap_push hd2, by kernel_rfl, Nat.zero_le _⟩
        simp [SMi, natS, eqG_refl]
      · have hpos : y + b ≤ x := by have := of_decide_eq_false hpos; clear step; omega
        refine ⟨⟨trivial, Nat.le_refl _, by clear step; omega⟩, fun _ => ⟨by clear step; omega, fun _ => ?_⟩⟩
        rw [if_pos trivial]
        obtain ⟨d, hd⟩ : ∃ d, d + y + b = x := ⟨x - y - b, by clear step; omega⟩
        have hd2 : (x : Int) - y - b = (d : Nat) := by clear step; omega
        refine ⟨⟨(o ++ [d], 0, i + 1), by simp [hol], hlt, Ten.dig_append.2 ⟨hod, by simp only [Ten.dig, List.mem_singleton]; rintro _ rfl; show _ < 10; clear step; omega⟩, Nat.zero_le _, step d 0 (by clear step; omega)⟩, by show l.length - (i + 1) < l.length - i; omega, ?_, heap_push hd2, by kernel_rfl, Nat.zero_le _⟩
        simp [SMi, natS, eqG_refl]
    · have hge : i = l.length := by have := of_decide_eq_false hge; omega
      subst hge
      exact RetR.nats (hq o ⟨hol, hod, minus_end hl hod hol hml hv⟩) rfl
end Go.Proofs.Tryd
end
